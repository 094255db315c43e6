import PyProof.Rows.All
import Wide.All
import OpenK.AllK
import Wide.FinOn
import HandS.ForMost
import HandS.Conv
import HandS.TupAny
import HandS.TupMul
import HandS.Deep
import HandS.Style
import HandS.TupLen
import HandS.NoneIn
import HandS.Zip
import KE.KDictPairs
import HandS.More
import KE.SortData
import HandS.RaiseMore
import HandS.Iter
import KE.KDictWalk
import KE.GoesEnum
import HandS.Wide
import HandS.IsInst
import HandS.Star
import HandS.Gcd
import PyProof.Rows.StrDigits
import HandS.TupLe
import KE.KDictDisplayH
import KE.GoesZip
import KE.GoesMore
import KE.GoesEnumKw
import PyProof.Rows.CallKwBuiltin
import KE.KDictKeyed
import PyProof.WalksMore
import PyProof.SumWalkG
import PySem.Challenge.RW_starpowers_k09_whole_products_of_lines
set_option Elab.async false
set_option linter.all false
set_option maxRecDepth 100000
/-! W2A: data over the abstract heap: what a value is as data (Dt), a frame's slots (Slot, Rep), how a heap grows (Ext2). -/
namespace W2
open PySem PySem.Spec PyProof.Rows L2

abbrev D := PyData
def kD : Key → D
  | .inl i => .int i
  | .inr x => .str x

/-- a tuple with no dict of its own: its very object is known -/
def TupAt (F : Hp) (a : Addr) (xs : List V) : Prop := ∃ o : Obj, o.dict = none ∧ F a = some (.frz o (.tup xs))
/-- a dict whose keys are such tuples: its very object -/
def isO (a : Addr) (o : Obj) : Heap → Prop := fun h => h.get? a = some o
abbrev tdO (a : Addr) (o : Obj) : HO := .ext (isO a o)
def KTF (F : Hp) : List (List Key × V) → List (List Key × Addr × Value) → Prop := Paired fun p q => p.1 = q.1 ∧ TupAt F q.2.1 (p.1.map kV) ∧ RelV p.2 q.2.2
structure TObj (o : Obj) (xs : List (List Key × Addr × Value)) : Prop where
  small : xs.length ≤ sizeLine
  exact : o.ExactDict
  ents : ∃ es ep, o.data = .dict es ep ∧ (es.toList.map fun e => e.key) = (xs.map fun x => Value.ref x.2.1) ∧ ∀ (P : Program) (w : World), es.toList = xs.map (entryOfKey (tupleKind (mixKind P w)))
  nodup : (xs.map (·.1)).Nodup
  intk : ∀ x ∈ xs, ∃ is : List Int, x.1 = is.map Sum.inl
def TD (F : Hp) (a : Addr) (o : Obj) (kvs : List (List Key × V)) : Prop := (a == sysModules) = false ∧ ∃ xs, TObj o xs ∧ KTF F kvs xs
def RdT (H : Hp) (a : Addr) (o : Obj) : Prop := H a = some (tdO a o) ∨ ∃ o', H a = some (.frz o' (tdO a o))
theorem TupAt.mono {F F' : Hp} {a : Addr} {xs : List V} (h : TupAt F a xs) (e : Same F F') : TupAt F' a xs := ⟨h.choose, h.choose_spec.1, e _ _ h.choose_spec.2⟩
theorem TupAt.sq {K : PySem.W.Frag} {H : Hp} {a : Addr} {xs : List V} (h : TupAt H a xs) : SqT K H a xs := .inl (.inr ⟨_, h.choose_spec.2⟩)
theorem KTF.mono {F F' : Hp} {kvs : List (List Key × V)} {xs : List (List Key × Addr × Value)} (h : KTF F kvs xs) (e : Same F F') : KTF F' kvs xs := Paired.mapP h fun _ _ z => ⟨z.1, z.2.1.mono e, z.2.2⟩
theorem TD.mono {F F' : Hp} {a : Addr} {o : Obj} {kvs : List (List Key × V)} (h : TD F a o kvs) (e : Same F F') : TD F' a o kvs := ⟨h.1, h.2.choose, h.2.choose_spec.1, h.2.choose_spec.2.mono e⟩

mutual
/-- v is the data d, whose objects all stand in F (what never changes any more) -/
inductive Dt (K : PySem.W.Frag) (F : Hp) : V → D → Prop
  | non : Dt K F .non .none
  | bl (b : Bool) : Dt K F (.bl b) (.bool b)
  | int (i : Int) : Dt K F (.int i) (.int i)
  | str (x : Str) : Dt K F (.str x) (.str x)
  | lst {a : Addr} {xs : List V} {ds : List D} : F a = some (.lst xs) → DtL K F xs ds → Dt K F (.ref a) (.list ds)
  | tup {a : Addr} {xs : List V} {ds : List D} : TupAt F a xs → DtL K F xs ds → Dt K F (.ref a) (.tuple ds)
  | dK {a : Addr} {o : Obj} {kvs : List (Key × V)} {es : List (D × D)} : F a = some (.frz o (.dK kvs)) → DtK K F kvs es → Dt K F (.ref a) (.dict es)
  | dT {a : Addr} {o o' : Obj} {kvs : List (List Key × V)} {es : List (D × D)} : F a = some (.frz o' (tdO a o)) → TD F a o kvs → DtT K F kvs es → Dt K F (.ref a) (.dict es)
inductive DtL (K : PySem.W.Frag) (F : Hp) : List V → List D → Prop
  | nil : DtL K F [] []
  | cons {v : V} {vs : List V} {d : D} {ds : List D} : Dt K F v d → DtL K F vs ds → DtL K F (v :: vs) (d :: ds)
inductive DtK (K : PySem.W.Frag) (F : Hp) : List (Key × V) → List (D × D) → Prop
  | nil : DtK K F [] []
  | cons {k : Key} {v : V} {r : List (Key × V)} {d : D} {rs : List (D × D)} : Dt K F v d → DtK K F r rs → DtK K F ((k, v) :: r) ((kD k, d) :: rs)
inductive DtT (K : PySem.W.Frag) (F : Hp) : List (List Key × V) → List (D × D) → Prop
  | nil : DtT K F [] []
  | cons {k : List Key} {v : V} {r : List (List Key × V)} {d : D} {rs : List (D × D)} : Dt K F v d → DtT K F r rs → DtT K F ((k, v) :: r) ((.tuple (k.map kD), d) :: rs)
end

theorem Same.seqT {K : PySem.W.Frag} {H H' : Hp} {a : Addr} {xs : List V} (e : Same H H') (h : SqT K H a xs) : SqT K H' a xs := by
  rcases h with (h | ⟨o, h⟩) | h
  · exact .inl (.inl (e _ _ h))
  · exact .inl (.inr ⟨o, e _ _ h⟩)
  · exact .inr h

mutual
theorem Dt.mono {K : PySem.W.Frag} {F F' : Hp} (e : Same F F') : ∀ {v : V} {d : D}, Dt K F v d → Dt K F' v d
  | _, _, .non => .non
  | _, _, .bl b => .bl b
  | _, _, .int i => .int i
  | _, _, .str x => .str x
  | _, _, .lst h hs => .lst (e _ _ h) (DtL.mono e hs)
  | _, _, .tup h hs => .tup (h.mono e) (DtL.mono e hs)
  | _, _, .dK h hs => .dK (e _ _ h) (DtK.mono e hs)
  | _, _, .dT h ht hs => .dT (e _ _ h) (ht.mono e) (DtT.mono e hs)
theorem DtL.mono {K : PySem.W.Frag} {F F' : Hp} (e : Same F F') : ∀ {vs : List V} {ds : List D}, DtL K F vs ds → DtL K F' vs ds
  | _, _, .nil => .nil
  | _, _, .cons h t => .cons (Dt.mono e h) (DtL.mono e t)
theorem DtK.mono {K : PySem.W.Frag} {F F' : Hp} (e : Same F F') : ∀ {vs : List (Key × V)} {ds : List (D × D)}, DtK K F vs ds → DtK K F' vs ds
  | _, _, .nil => .nil
  | _, _, .cons h t => .cons (Dt.mono e h) (DtK.mono e t)
theorem DtT.mono {K : PySem.W.Frag} {F F' : Hp} (e : Same F F') : ∀ {vs : List (List Key × V)} {ds : List (D × D)}, DtT K F vs ds → DtT K F' vs ds
  | _, _, .nil => .nil
  | _, _, .cons h t => .cons (Dt.mono e h) (DtT.mono e t)
end

section
variable {K : PySem.W.Frag} {F : Hp}
theorem DtL.length : ∀ {vs : List V} {ds : List D}, DtL K F vs ds → vs.length = ds.length
  | _, _, .nil => rfl
  | _, _, .cons _ t => congrArg (· + 1) t.length
theorem DtL.get : ∀ {vs : List V} {ds : List D} (i : Nat) {d : D}, DtL K F vs ds → ds[i]? = some d → ∃ v, vs[i]? = some v ∧ Dt K F v d
  | _, _, _, _, .nil, e => by simp at e
  | _, _, 0, _, .cons h _, e => by simp at e; subst e; exact ⟨_, rfl, h⟩
  | _, _, i + 1, _, .cons _ t, e => by
    obtain ⟨v, h1, h2⟩ := t.get i (by simpa using e)
    exact ⟨v, by simpa using h1, h2⟩
theorem DtL.getV : ∀ {vs : List V} {ds : List D} (i : Nat) {v : V}, DtL K F vs ds → vs[i]? = some v → ∃ d, ds[i]? = some d ∧ Dt K F v d
  | _, _, _, _, .nil, e => by simp at e
  | _, _, 0, _, .cons h _, e => by simp at e; subst e; exact ⟨_, rfl, h⟩
  | _, _, i + 1, _, .cons _ t, e => by
    obtain ⟨v, h1, h2⟩ := t.getV i (by simpa using e)
    exact ⟨v, by simpa using h1, h2⟩
theorem DtL.append : ∀ {vs ws : List V} {ds es : List D}, DtL K F vs ds → DtL K F ws es → DtL K F (vs ++ ws) (ds ++ es)
  | _, _, _, _, .nil, s => s
  | _, _, _, _, .cons h t, s => .cons h (t.append s)
theorem DtL.one {v : V} {d : D} (h : Dt K F v d) : DtL K F [v] [d] := .cons h .nil
theorem DtL.take : ∀ {vs : List V} {ds : List D} (n : Nat), DtL K F vs ds → DtL K F (vs.take n) (ds.take n)
  | _, _, 0, _ => .nil
  | _, _, _ + 1, .nil => .nil
  | _, _, n + 1, .cons h t => .cons h (t.take n)
theorem DtL.drop : ∀ {vs : List V} {ds : List D} (n : Nat), DtL K F vs ds → DtL K F (vs.drop n) (ds.drop n)
  | _, _, 0, h => h
  | _, _, _ + 1, .nil => .nil
  | _, _, n + 1, .cons _ t => t.drop n
theorem DtL.set {v : V} {d : D} (h : Dt K F v d) : ∀ {vs : List V} {ds : List D} (n : Nat), DtL K F vs ds → DtL K F (vs.set n v) (ds.set n d)
  | _, _, _, .nil => .nil
  | _, _, 0, .cons _ t => .cons h t
  | _, _, n + 1, .cons k t => .cons k (t.set h n)
theorem DtL.reverse : ∀ {vs : List V} {ds : List D}, DtL K F vs ds → DtL K F vs.reverse ds.reverse
  | _, _, .nil => .nil
  | _, _, .cons h t => by
    rw [List.reverse_cons, List.reverse_cons]
    exact t.reverse.append (.one h)
theorem DtL.of : ∀ {vs : List V} {ds : List D}, vs.length = ds.length → (∀ (i : Nat) v d, vs[i]? = some v → ds[i]? = some d → Dt K F v d) → DtL K F vs ds
  | [], [], _, _ => .nil
  | v :: vs, d :: ds, hl, h => .cons (h 0 v d rfl rfl) (DtL.of (by simpa using hl) fun i v d h1 h2 => h (i + 1) v d (by simpa using h1) (by simpa using h2))
  | [], _ :: _, hl, _ => by simp at hl
  | _ :: _, [], hl, _ => by simp at hl
theorem DtL.intsV : ∀ {vs : List V} {ns : List Int}, DtL K F vs (ns.map PyData.int) → vs = ns.map V.int
  | _, [], h => by cases h; rfl
  | _, n :: ns, h => by
    cases h with
    | cons a t =>
      cases a
      rw [t.intsV]; rfl
theorem DtL.ints : ∀ (ns : List Int), DtL K F (ns.map V.int) (ns.map PyData.int)
  | [] => .nil
  | n :: ns => .cons (.int n) (DtL.ints ns)
theorem Dt.key : ∀ (k : Key), Dt K F (kV k) (kD k)
  | .inl i => .int i
  | .inr x => .str x
theorem DtL.keys : ∀ (ks : List Key), DtL K F (ks.map kV) (ks.map kD)
  | [] => .nil
  | k :: ks => .cons (Dt.key k) (DtL.keys ks)
theorem Dt.keyV {v : V} : ∀ {k : Key}, Dt K F v (kD k) → v = kV k
  | .inl i, h => by cases h; rfl
  | .inr x, h => by cases h; rfl
theorem DtL.keysV : ∀ {vs : List V} {ks : List Key}, DtL K F vs (ks.map kD) → vs = ks.map kV
  | _, [], h => by cases h; rfl
  | _, k :: ks, h => by
    cases h with
    | cons a t => rw [a.keyV, t.keysV]; rfl
end

/-! ### the law's source of numbers: one dict and its list of cells -/
structure SrcAt (H : Hp) (a b : Addr) : Prop where
  ne : a ≠ b
  ex : ∃ (cs : List Int) (l m t : Int), H a = some (.dK [(.inr "cells", .ref b), (.inr "left", .int l), (.inr "mixed", .int m), (.inr "turn", .int t)]) ∧ H b = some (.lst (cs.map V.int)) ∧
    (∀ c ∈ cs, 0 ≤ c) ∧ 0 ≤ l ∧ 0 ≤ m ∧ m < 2147483648 ∧ 0 ≤ t
abbrev Sx := Option (Addr × Addr)
def inSx : Sx → Addr → Prop
  | none, _ => False
  | some (a, b), c => c = a ∨ c = b
def SxOk : Sx → Hp → Prop
  | none, _ => True
  | some (a, b), H => SrcAt H a b
theorem SxOk.notup {sx : Sx} {H : Hp} (h : SxOk sx H) {c : Addr} (hc : inSx sx c) {xs : List V} : H c ≠ some (.tup xs) := by
  cases sx with
  | none => exact hc.elim
  | some p =>
    obtain ⟨a, b⟩ := p
    obtain ⟨_, cs, l, m, t, h1, h2, _⟩ := h
    rcases hc with rfl | rfl
    · rw [h1]; intro z; cases z
    · rw [h2]; intro z; cases z
theorem SxOk.there {sx : Sx} {H : Hp} (h : SxOk sx H) {c : Addr} (hc : inSx sx c) : ∃ o, H c = some o := by
  cases sx with
  | none => exact hc.elim
  | some p =>
    obtain ⟨a, b⟩ := p
    obtain ⟨_, cs, l, m, t, h1, h2, _⟩ := h
    rcases hc with rfl | rfl
    · exact ⟨_, h1⟩
    · exact ⟨_, h2⟩

/-- the heap grows: F is what never changes, H all that is tracked -/
structure Ext2 (sx : Sx) (F H F' H' : Hp) : Prop where
  sF : Same F F'
  sH : ∀ b o, H b = some o → ¬ inSx sx b → H' b = some o
  le : Same F' H'
  fr : ∀ b o, F' b = some o → F b = some o ∨ H b = none ∨ ∃ xs, o = .tup xs
  ok : SxOk sx H'
structure Base (sx : Sx) (F H : Hp) : Prop where
  le : Same F H
  ok : SxOk sx H
  no : ∀ b, inSx sx b → F b = none
section
variable {sx : Sx} {F H F1 H1 F2 H2 : Hp}
theorem Ext2.refl (b : Base sx F H) : Ext2 sx F H F H := ⟨Same.refl F, fun _ _ h _ => h, b.le, fun _ _ h => .inl h, b.ok⟩
theorem Ext2.back (e : Ext2 sx F H F1 H1) {b : Addr} (h : H1 b = none) : H b = none := by
  cases q : H b with
  | none => rfl
  | some o =>
    by_cases hb : inSx sx b
    · obtain ⟨o', ho⟩ := e.ok.there hb
      rw [h] at ho; cases ho
    · rw [e.sH b o q hb] at h; cases h
theorem Ext2.trans (e : Ext2 sx F H F1 H1) (f : Ext2 sx F1 H1 F2 H2) : Ext2 sx F H F2 H2 where
  sF := e.sF.trans f.sF
  sH := fun b o h n => f.sH b o (e.sH b o h n) n
  le := f.le
  fr := fun b o h => by
    rcases f.fr b o h with h | h | h
    · exact e.fr b o h
    · exact .inr (.inl (e.back h))
    · exact .inr (.inr h)
  ok := f.ok
theorem Ext2.base (b : Base sx F H) (e : Ext2 sx F H F1 H1) : Base sx F1 H1 where
  le := e.le
  ok := e.ok
  no := fun c hc => by
    cases q : F1 c with
    | none => rfl
    | some o =>
      rcases e.fr c o q with h | h | ⟨xs, rfl⟩
      · rw [b.no c hc] at h; cases h
      · obtain ⟨o', ho⟩ := b.ok.there hc
        rw [h] at ho; cases ho
      · exact absurd (e.le _ _ q) (e.ok.notup hc)
/-- a new object, frozen at once -/
theorem Ext2.new (b : Base sx F H) {p : Addr} {o : HO} (hp : H p = none) : Ext2 sx F H (upd F p o) (upd H p o) where
  sF := fun c u h => by
    rw [upd_ne]
    · exact h
    · intro e; subst e
      rw [b.le _ _ h] at hp; cases hp
  sH := fun c u h _ => by rw [upd_ne (ne_of_none h hp)]; exact h
  le := fun c u h => by
    by_cases e : c = p
    · subst e; rw [upd_same] at h ⊢; exact h
    · rw [upd_ne e] at h ⊢; exact b.le _ _ h
  fr := fun c u h => by
    by_cases e : c = p
    · subst e; exact .inr (.inl hp)
    · rw [upd_ne e] at h; exact .inl h
  ok := by
    cases sx with
    | none => trivial
    | some q =>
      obtain ⟨a1, b1⟩ := q
      obtain ⟨n, cs, l, m, t, h1, h2, r⟩ := b.ok
      exact ⟨n, cs, l, m, t, by rw [upd_ne (ne_of_none h1 hp)]; exact h1, by rw [upd_ne (ne_of_none h2 hp)]; exact h2, r⟩
/-- a new object, not frozen -/
theorem Ext2.newF (b : Base sx F H) {p : Addr} {o : HO} (hp : H p = none) : Ext2 sx F H F (upd H p o) :=
  let e := Ext2.new (o := o) b hp
  ⟨Same.refl F, e.sH, fun c u h => by rw [upd_ne (ne_of_none (b.le _ _ h) hp)]; exact b.le _ _ h, fun _ _ h => .inl h, e.ok⟩
/-- a call that changes nothing -/
theorem Ext2.pure (b : Base sx F H) (e : Ext2 none F H F1 H1) : Ext2 sx F H F1 H1 where
  sF := e.sF
  sH := fun c o h _ => e.sH c o h (fun z => z)
  le := e.le
  fr := e.fr
  ok := by
    cases sx with
    | none => trivial
    | some q =>
      obtain ⟨a1, b1⟩ := q
      obtain ⟨n, cs, l, m, t, h1, h2, r⟩ := b.ok
      exact ⟨n, cs, l, m, t, e.sH _ _ h1 (fun z => z), e.sH _ _ h2 (fun z => z), r⟩
end

/-! ### a frame's slots -/
inductive Slot where
  | un
  | fz (d : D)
  | ow (d : D)
  | src
abbrev En := List Slot
def OwnAt (K : PySem.W.Frag) (F H : Hp) (a : Addr) : D → Prop
  | .list ds => ∃ xs, H a = some (.lst xs) ∧ DtL K F xs ds
  | .dict es => (∃ kvs, H a = some (.dK kvs) ∧ DtK K F kvs es) ∨ ∃ o kvs, H a = some (tdO a o) ∧ TD F a o kvs ∧ DtT K F kvs es
  | _ => False
theorem OwnAt.there {K : PySem.W.Frag} {F H : Hp} {a : Addr} {d : D} (h : OwnAt K F H a d) : ∃ o, H a = some o := by
  cases d with
  | list ds => exact ⟨_, h.choose_spec.1⟩
  | dict es =>
    rcases h with ⟨kvs, h, _⟩ | ⟨o, kvs, h, _⟩
    · exact ⟨_, h⟩
    · exact ⟨_, h⟩
  | _ => exact h.elim
theorem OwnAt.mono {K : PySem.W.Frag} {F H F' H' : Hp} {a : Addr} {d : D} (h : OwnAt K F H a d) (e : Same F F') (k : ∀ o, H a = some o → H' a = some o) : OwnAt K F' H' a d := by
  cases d with
  | list ds => obtain ⟨xs, h1, h2⟩ := h; exact ⟨xs, k _ h1, h2.mono e⟩
  | dict es =>
    rcases h with ⟨kvs, h1, h2⟩ | ⟨o, kvs, h1, h3, h2⟩
    · exact .inl ⟨kvs, k _ h1, h2.mono e⟩
    · exact .inr ⟨o, kvs, k _ h1, h3.mono e, h2.mono e⟩
  | _ => exact h.elim
theorem OwnAt.notup {K : PySem.W.Frag} {F H H' : Hp} {a : Addr} {d : D} (h : OwnAt K F H a d) (k : ∀ o, H a = some o → H' a = some o) {xs : List V} : H' a ≠ some (.tup xs) := by
  cases d with
  | list ds => obtain ⟨ys, h1, h2⟩ := h; rw [k _ h1]; intro z; cases z
  | dict es =>
    rcases h with ⟨kvs, h1, h2⟩ | ⟨o, kvs, h1, h2⟩
    · rw [k _ h1]; intro z; cases z
    · rw [k _ h1]; intro z; cases z
  | _ => exact h.elim
def SlotOk (K : PySem.W.Frag) (sx : Sx) (H0 F H : Hp) (v : Option V) : Slot → Prop
  | .un => True
  | .fz d => ∃ x, v = some x ∧ Dt K F x d
  | .ow d => ∃ a, v = some (.ref a) ∧ OwnAt K F H a d ∧ F a = none ∧ H0 a = none ∧ ¬ inSx sx a
  | .src => ∃ a b, sx = some (a, b) ∧ v = some (.ref a)
/-- the frame η over the slots σ and the heap H; H0, F0: as they were at the def's entry -/
structure Rep (K : PySem.W.Frag) (sx : Sx) (H0 F0 F : Hp) (σ : L2.St) (H : Hp) (η : En) : Prop where
  base : Base sx F H
  s0 : ∀ b o, H0 b = some o → ¬ inSx sx b → H b = some o
  f0 : Same F0 F
  fr : ∀ b o, F b = some o → F0 b = some o ∨ H0 b = none ∨ ∃ xs, o = .tup xs
  len : η.length = σ.length
  sl : ∀ (i : Nat) (s : Slot) (v : Option V), η[i]? = some s → σ[i]? = some v → SlotOk K sx H0 F H v s
  sep : ∀ (i j : Nat) (d e : D) (a : Addr), η[i]? = some (.ow d) → η[j]? = some (.ow e) → σ[i]? = some (some (.ref a)) → σ[j]? = some (some (.ref a)) → i = j
section
variable {K : PySem.W.Frag} {sx : Sx} {H0 F0 F H F1 H1 : Hp} {σ : L2.St} {η : En}
theorem Rep.ext (r : Rep K sx H0 F0 F σ H η) (e : Ext2 sx F H F1 H1) : Rep K sx H0 F0 F1 σ H1 η where
  base := e.base r.base
  s0 := fun b o h n => e.sH b o (r.s0 b o h n) n
  f0 := r.f0.trans e.sF
  fr := fun b o h => by
    rcases e.fr b o h with h | h | h
    · exact r.fr b o h
    rotate_left
    · exact .inr (.inr h)
    · refine .inr (.inl ?_)
      cases q : H0 b with
      | none => rfl
      | some u =>
        by_cases hb : inSx sx b
        · obtain ⟨o', ho⟩ := r.base.ok.there hb
          rw [h] at ho; cases ho
        · rw [r.s0 b u q hb] at h; cases h
  len := r.len
  sl := fun i s v h1 h2 => by
    have q := r.sl i s v h1 h2
    cases s with
    | un => trivial
    | fz d => obtain ⟨x, hx, hd⟩ := q; exact ⟨x, hx, hd.mono e.sF⟩
    | ow d =>
      obtain ⟨a, hv, ho, hf, h0, hn⟩ := q
      refine ⟨a, hv, ho.mono e.sF fun o z => e.sH a o z hn, ?_, h0, hn⟩
      cases z : F1 a with
      | none => rfl
      | some u =>
        rcases e.fr a u z with y | y | ⟨xs, rfl⟩
        · rw [hf] at y; cases y
        · obtain ⟨u', hu⟩ := ho.there
          rw [y] at hu; cases hu
        · obtain ⟨u', hu⟩ := ho.there
          exact absurd (e.le _ _ z) (ho.notup (fun o z => e.sH a o z hn))
    | src => exact q
  sep := r.sep
/-- what the def hands back is so for its caller -/
theorem Rep.out (r : Rep K sx H0 F0 F σ H η) : Ext2 sx F0 H0 F H := ⟨r.f0, r.s0, r.base.le, r.fr, r.base.ok⟩
end

/-- what can be read now: frozen, or a slot's own -/
def Op (K : PySem.W.Frag) (F : Hp) (σ : L2.St) (η : En) (v : V) (d : D) : Prop :=
  Dt K F v d ∨ ∃ (i : Nat) (a : Addr), η[i]? = some (.ow d) ∧ σ[i]? = some (some (.ref a)) ∧ v = .ref a
/-- what can be read now, by the heap alone -/
def Nw (K : PySem.W.Frag) (F H : Hp) (v : V) (d : D) : Prop := Dt K F v d ∨ ∃ a, v = .ref a ∧ OwnAt K F H a d
section
variable {K : PySem.W.Frag} {sx : Sx} {H0 F0 F H F1 H1 : Hp} {σ : L2.St} {η : En} {v : V} {d : D}
theorem Op.mono (h : Op K F σ η v d) (e : Same F F1) : Op K F1 σ η v d := by
  rcases h with h | h
  · exact .inl (h.mono e)
  · exact .inr h
theorem Op.nw (h : Op K F σ η v d) (r : Rep K sx H0 F0 F σ H η) : Nw K F H v d := by
  rcases h with h | ⟨i, a, h1, h2, h3⟩
  · exact .inl h
  · obtain ⟨a', e, ho, _⟩ := r.sl i _ _ h1 h2
    cases e
    exact .inr ⟨a, h3, ho⟩
theorem Nw.int {i : Int} (h : Nw K F H v (.int i)) : v = .int i := by
  rcases h with h | ⟨a, _, h⟩
  · cases h; rfl
  · exact h.elim
theorem Nw.bool {i : Bool} (h : Nw K F H v (.bool i)) : v = .bl i := by
  rcases h with h | ⟨a, _, h⟩
  · cases h; rfl
  · exact h.elim
theorem Nw.str {i : Str} (h : Nw K F H v (.str i)) : v = .str i := by
  rcases h with h | ⟨a, _, h⟩
  · cases h; rfl
  · exact h.elim
theorem Nw.none (h : Nw K F H v .none) : v = .non := by
  rcases h with h | ⟨a, _, h⟩
  · cases h; rfl
  · exact h.elim
theorem Nw.list {ds : List D} (h : Nw K F H v (.list ds)) (le : Same F H) : ∃ a xs, v = .ref a ∧ H a = some (.lst xs) ∧ DtL K F xs ds := by
  rcases h with h | ⟨a, e, h⟩
  · cases h with
    | lst h1 h2 => exact ⟨_, _, rfl, le _ _ h1, h2⟩
  · obtain ⟨xs, h1, h2⟩ := h
    exact ⟨a, xs, e, h1, h2⟩
theorem Nw.tuple {ds : List D} (h : Nw K F H v (.tuple ds)) : ∃ a xs, v = .ref a ∧ TupAt F a xs ∧ DtL K F xs ds := by
  rcases h with h | ⟨a, e, h⟩
  · cases h with
    | tup h1 h2 => exact ⟨_, _, rfl, h1, h2⟩
  · exact h.elim
theorem Nw.tupleH {ds : List D} (h : Nw K F H v (.tuple ds)) (le : Same F H) : ∃ a xs, v = .ref a ∧ SqT K H a xs ∧ DtL K F xs ds := by
  obtain ⟨a, xs, e, h1, h2⟩ := h.tuple
  exact ⟨a, xs, e, (h1.mono le).sq, h2⟩
theorem Nw.dict {es : List (D × D)} (h : Nw K F H v (.dict es)) (le : Same F H) : ∃ a, v = .ref a ∧ ((∃ kvs, Rd H a (.dK kvs) ∧ DtK K F kvs es) ∨ ∃ o kvs, RdT H a o ∧ TD F a o kvs ∧ DtT K F kvs es) := by
  rcases h with h | ⟨a, e, h⟩
  · cases h with
    | dK h1 h2 => exact ⟨_, rfl, .inl ⟨_, .inr ⟨_, le _ _ h1⟩, h2⟩⟩
    | dT h1 h3 h2 => exact ⟨_, rfl, .inr ⟨_, _, .inr ⟨_, le _ _ h1⟩, h3, h2⟩⟩
  · rcases h with ⟨kvs, h1, h2⟩ | ⟨o, kvs, h1, h3, h2⟩
    · exact ⟨a, e, .inl ⟨kvs, .inl h1, h2⟩⟩
    · exact ⟨a, e, .inr ⟨o, kvs, .inl h1, h3, h2⟩⟩
/-! what the real heap says of them -/
section
variable {X : Cx} {pins : List (Addr × Obj)} {σ : L2.St} {s : Shared} {a : Addr}
theorem ok_of_hok {P : Program} {w : World} {H : Hp} {h : Heap} {a : Addr} {u : HO} (ok : HOk P w H h) (e : H a = some u) : ObjOk P w H h a u := ok a _ e
/-- a tracked tuple: its object -/
theorem TupAt.obj {P : Program} {w : World} {h : Heap} (t : TupAt H a xs) (ok : HOk P w H h) : ∃ (o : Obj) (its : List Value) (n : Nat), h.get? a = some o ∧ o.dict = none ∧ o.cls = .type "tuple" ∧ o.data = .seq its.toArray n ∧ Vals xs its ∧ xs.length ≤ sizeLine := by
  obtain ⟨o, h1, h2⟩ := t
  obtain ⟨e, z, its, r, o', e', c, n, d⟩ := (show ObjOk P w H h a (.frz o (.tup xs)) from ok a _ h2)
  rw [e] at e'
  cases e'
  exact ⟨o, its, n, e, h1, c, d, r, z⟩
theorem TupAt.key {P : Program} {w : World} {h : Heap} {ks : List Key} (t : TupAt H a (ks.map kV)) (ok : HOk P w H h) : (tupleKind (mixKind P w)).is h ks a := by
  obtain ⟨o, its, n, e, _, c, d, r, _⟩ := t.obj ok
  exact ⟨o, its.toArray, n, e, c, d, by simpa using items_are r⟩
theorem RdT.get {P : Program} {w : World} {h : Heap} {o : Obj} (r : RdT H a o) (ok : HOk P w H h) : h.get? a = some o := by
  rcases r with r | ⟨o', r⟩
  · exact (show ObjOk P w H h a (tdO a o) from ok a _ r).1
  · exact (show ObjOk P w H h a (.frz o' (tdO a o)) from ok a _ r).2.1
theorem KTF.all {P : Program} {w : World} {h : Heap} (ok : HOk P w H h) : ∀ {kvs : List (List Key × V)} {xs : List (List Key × Addr × Value)}, KTF H kvs xs → ∀ x ∈ xs, (tupleKind (mixKind P w)).is h x.1 x.2.1
  | _, _, .nil, x, hx => nomatch hx
  | _, _, .cons hq t, x, hx => by
    rcases List.mem_cons.mp hx with e | hx
    · subst e
      have := hq.2.1
      rw [hq.1] at this
      exact this.key ok
    · exact KTF.all ok t x hx
/-- a dict with tuple keys: as the library reads it -/
theorem TD.of {P : Program} {w : World} {h : Heap} {o : Obj} {kvs : List (List Key × V)} (t : TD H a o kvs) (r : RdT H a o) (ok : HOk P w H h) :
    (a == sysModules) = false ∧ ∃ xs, KTF H kvs xs ∧ xs.length ≤ sizeLine ∧ h.DictOfH (tupleKind (mixKind P w)) a xs := by
  obtain ⟨n, xs, t1, t2⟩ := t
  obtain ⟨es, ep, d1, _, d2⟩ := t1.ents
  exact ⟨n, xs, t2, t1.small, o, es, ep, r.get ok, t1.exact, d1, d2 P w, KTF.all ok t2, t1.nodup⟩
/-- what the library has made is one -/
theorem hash_ints (w w' : World) (is : List Int) : (is.map (Sum.inl : Int → Key)).map (keyH w) = (is.map (Sum.inl : Int → Key)).map (keyH w') := by
  rw [List.map_map, List.map_map]
  rfl
theorem entry_ints {P P' : Program} {w w' : World} {x : List Key × Addr × Value} (h : ∃ is : List Int, x.1 = is.map Sum.inl) : entryOfKey (tupleKind (mixKind P w)) x = entryOfKey (tupleKind (mixKind P' w')) x := by
  obtain ⟨is, e⟩ := h
  obtain ⟨k, b, v⟩ := x
  have e' : k = is.map Sum.inl := e
  subst e'
  show (⟨reduceHash (Builtin.Tuple.tupleHashOf ((is.map (Sum.inl : Int → Key)).map (keyH w))), _, _⟩ : DictEntry) = ⟨reduceHash (Builtin.Tuple.tupleHashOf ((is.map (Sum.inl : Int → Key)).map (keyH w'))), _, _⟩
  rw [hash_ints w w']
theorem TObj.mk' {P : Program} {w : World} {h : Heap} {xs : List (List Key × Addr × Value)} (sm : xs.length ≤ sizeLine) (hi : ∀ x ∈ xs, ∃ is : List Int, x.1 = is.map Sum.inl) (d : h.DictOfH (tupleKind (mixKind P w)) a xs) : ∃ o, h.get? a = some o ∧ TObj o xs := by
  obtain ⟨o, es, ep, e, x, dd, ee, _, nd⟩ := d
  exact ⟨o, e, sm, x, ⟨es, ep, dd, by rw [ee, List.map_map]; rfl, fun P' w' => by rw [ee]; exact List.map_congr_left fun x hx => entry_ints (hi x hx)⟩, nd, hi⟩
theorem TD.mk' {P : Program} {w : World} {h : Heap} {kvs : List (List Key × V)} {xs : List (List Key × Addr × Value)} (hs : (a == sysModules) = false) (kt : KTF F kvs xs) (sm : xs.length ≤ sizeLine) (hi : ∀ x ∈ xs, ∃ is : List Int, x.1 = is.map Sum.inl) (d : h.DictOfH (tupleKind (mixKind P w)) a xs) : ∃ o, h.get? a = some o ∧ TD F a o kvs := by
  obtain ⟨o, es, ep, e, x, dd, ee, _, nd⟩ := d
  exact ⟨o, e, hs, xs, ⟨sm, x, ⟨es, ep, dd, by rw [ee, List.map_map]; rfl, fun P' w' => by rw [ee]; exact List.map_congr_left fun x hx => entry_ints (hi x hx)⟩, nd, hi⟩, kt⟩
theorem ext_ok {P : Program} {w : World} {h : Heap} {o : Obj} (e : h.get? a = some o) : ObjOk P w H h a (tdO a o) := ⟨e, ⟨o, e⟩, fun _ _ x k => k _ x⟩
theorem KTF.length {kvs : List (List Key × V)} {xs : List (List Key × Addr × Value)} (h : KTF F kvs xs) : kvs.length = xs.length := Paired.length h
end
end
end W2

set_option Elab.async false
set_option linter.all false
set_option maxRecDepth 100000
/-! W2MK: what makes a tuple: its very object is known from then on, and it has no dict of its own. -/
namespace W2
open PySem PySem.Spec PyProof.Rows L2
/-- a new tuple -/
def mkT (H : Hp) (xs : List V) (Q : VK) : Prop := ∀ p o, H p = none → o.dict = none → Q (.ref p) (upd H p (.frz o (.tup xs)))
section
variable {X : Cx} {pins : List (Addr × Obj)} {σ : L2.St} {H : Hp} {s : Shared} {xs : List V}
theorem tup_ok {h : Heap} {p : Addr} {its : List Value} {o : Obj} (e : h.get? p = some o) (c : o.cls = .type "tuple") {n : Nat} (d : o.data = .seq its.toArray n) (r : Vals xs its) (z : xs.length ≤ sizeLine) {P : Program} {w : World} {H' : Hp} : ObjOk P w H' h p (.frz o (.tup xs)) :=
  ⟨e, z, its, r, o, e, c, n, d⟩
/-- the tuple's object is laid last -/
theorem made (I : Inv X pins σ H s) {its : List Value} (r : Vals xs its) (z : xs.length ≤ sizeLine) {Q : VK} (q : mkT H xs Q) (t : Nat) :
    ∃ x H1, Inv X pins σ H1 { s with heap := s.heap.push { cls := .type "tuple", data := .seq its.toArray }, toks := t } ∧ RelV x (.ref s.heap.objs.size) ∧ Q x H1 :=
  ⟨.ref s.heap.objs.size, _, I.laid (o := .frz { cls := .type "tuple", data := .seq its.toArray } (.tup xs)) (t' := t) (fun _ _ e => Heap.get?_push_of_some _ e) (Nat.le_refl _) (tup_ok (Heap.get?_push_size _ rfl) rfl rfl r z), rfl, q _ _ (I.hok.fresh (Nat.le_refl _)) rfl⟩
end
section
variable {X : Cx} {es : List Expr} {t : TA} {pos : Pos}
/-- a display -/
def tTupN (t : TA) : TE := fun σ H Q => t σ H fun xs H1 => xs.length ≤ sizeLine ∧ mkT H1 xs Q
theorem pe_tupN {k : Nat} (h : PA X es t) : PE X (.Tuple es k pos) (tTupN t) := ⟨fun pins s σ H Q I hq =>
  wpAny_Tuple_spliced (thn (h.run pos pins s σ H _ I hq) fun us s1 ⟨xs, H1, I1, r, z, q⟩ => ⟨by rw [← r.length]; exact z, made I1 r z q s1.toks⟩)⟩
/-- tuple(range(..)) -/
def tTupRgN (te : L2.St → Hp → (Int → Int → Hp → Prop) → Prop) : TE := fun σ H Q => te σ H fun a b H1 => RgOk a b ∧ mkT H1 (rgV a b) Q
theorem pe_tupRgN {e : Expr} {te : L2.St → Hp → (Int → Int → Hp → Prop) → Prop} {p pos : Pos} (hc : X.calm = true) (hg : Gl X "tuple") (hm : X.mg "tuple" = none) (he : PRg X e te) (na : starEach [e] X.env = (false, eval e X.env) :: starEach [] X.env := by rfl) : PE X (.Call (.Name "tuple" p) [e] [] pos) (tTupRgN te) := by
  refine ⟨fun pins s σ H Q I h => Call_ (ld_blt I hg hm boot_tuple (PyProof.Rows.callWith_type1 (args_cons (thn (he pins s σ H _ I h) fun x s1 ⟨r, a, b, t, u, v, H1, ex, hr, I1, ok, q⟩ => args_nil ?_) na) na))⟩
  subst ex; obtain ⟨b1, b2, b3, b4, b5⟩ := ok
  refine call_tuple_range (n := (b - a).toNat) (I1.ok.hd hc) hr (small_one b1 b2 b3 b4) (rangeSize_nat a b) b5 fun g tk acc hk hi => ?_
  have I2 : Inv X pins σ H1 { s1 with heap := g, toks := tk } := I1.kept hk
  have m := made I2 (xs := rgV a b) (its := acc.toList) (vals_rg hi) (by rw [rgV_length, sizeLine_eq]; omega) q tk
  rw [Array.toArray_toList] at m
  exact m
/-- tuple(xs) -/
def rTupN (K : PySem.W.Frag) : List V → Hp → VK → Prop := fun xs H Q => ∃ p ys, xs = [.ref p] ∧ ((SqL K H p ys ∧ mkT H ys Q) ∨ (SqT K H p ys ∧ Q (.ref p) H))
theorem call_tupN : CallR X (.type "tuple") (rTupN X.K) := by
  intro pins s σ H xs us Q I r h
  obtain ⟨p, ys, rfl, h⟩ := h; obtain ⟨u, rfl, rx⟩ := vals1 r; cases rx
  rcases h with ⟨hq, q⟩ | ⟨hq, q⟩
  · obtain ⟨its, r', pl, hz⟩ := I.list hq
    refine call_tuple_list pl.isList (fun g kp => made (I.kept (t' := s.toks) kp) r' hz q s.toks) (by simp only [List.size_toArray]; rw [← r'.length]; exact hz)
  · obtain ⟨its, r', pl, hz⟩ := I.tuple hq; exact call_tuple_same pl ⟨.ref p, H, I, rfl, q⟩
/-- t + u -/
def rCatN (K : PySem.W.Frag) : R2 := fun x y H Q => ∃ a b xs ys, x = .ref a ∧ y = .ref b ∧ SqT K H a xs ∧ SqT K H b ys ∧ xs.length + ys.length ≤ sizeLine ∧
  (xs = [] → Q (.ref b) H) ∧ (xs ≠ [] → ys = [] → Q (.ref a) H) ∧ (xs ≠ [] → ys ≠ [] → mkT H (xs ++ ys) Q)
theorem op_catN : OpR X (binaryOp .Add) (rCatN X.K) := by
  intro pins s σ H x y v u Q I rx ry h
  obtain ⟨a, b, xs, ys, rfl, rfl, ha, hb, hz, q0, q1, q2⟩ := h
  cases rx; cases ry
  obtain ⟨its, r1, p1, _⟩ := I.tuple ha; obtain ⟨its2, r2, p2, _⟩ := I.tuple hb
  by_cases hx : xs = []
  · subst hx; cases r1; exact cat_tup0 p1 p2 ⟨.ref b, H, I, rfl, q0 rfl⟩
  · refine HT.cat_tup p1 p2 (fun z => hx (r1.nil_iff.mp z)) (fun z => ⟨.ref a, H, I, rfl, q1 hx (r2.nil_iff.mp z)⟩) (fun z => ?_) (by rw [← r1.length, ← r2.length]; exact hz)
    exact made I (r1.append r2) (by rw [List.length_append]; exact hz) (q2 hx fun w => z (r2.nil_iff.mpr w)) s.toks
/-- t[lo:hi] -/
def rSlN (K : PySem.W.Frag) : V → Option Int → Option Int → Hp → VK → Prop := fun x lo hi H Q => ∃ a xs, x = .ref a ∧ SqT K H a xs ∧
  (HT.sIx xs.length 0 lo = 0 ∧ HT.sIx xs.length xs.length hi = xs.length → Q (.ref a) H) ∧ (¬ (HT.sIx xs.length 0 lo = 0 ∧ HT.sIx xs.length xs.length hi = xs.length) → mkT H (cutV xs lo hi) Q)
theorem sl_tupN : SlR X (rSlN X.K) := by
  intro pins s σ H x v vl vu lo hi sl Q I rx hs pl pu h
  obtain ⟨a, xs, rfl, hx, q1, q2⟩ := h
  cases rx
  obtain ⟨its, r, ht, hz⟩ := I.tuple hx
  have hl : its.toArray.size = xs.length := by rw [List.size_toArray]; exact r.length.symm
  refine ⟨"tuple", _, PyProof.Rows.slot_tuple_getitem.lookup, ht.typeIs, ?_⟩
  by_cases hw : HT.sIx xs.length 0 lo = 0 ∧ HT.sIx xs.length xs.length hi = xs.length
  · exact getItem_tuple_whole ht hs pl pu (by rw [hl]; exact hw) ⟨.ref a, H, I, rfl, q1 hw⟩
  · refine HT.getItem_tuple_cut ht hs pl pu (by rw [hl]; exact hw) ?_ (by rw [hl]; exact hz)
    rw [hl]
    exact made I ((r.drop (HT.sIx xs.length 0 lo)).take (HT.sIx xs.length xs.length hi - HT.sIx xs.length 0 lo)) (Nat.le_trans (cutV_length xs lo hi) hz) (q2 hw) s.toks
end
end W2

set_option Elab.async false
set_option linter.all false
set_option maxRecDepth 100000
/-! W2B: readings over data: expressions. -/
namespace W2
open PySem PySem.Spec PyProof.Rows L2

abbrev WE := En → (D → Prop) → Prop
abbrev WT := En → (Bool → Prop) → Prop
abbrev WA := En → (List D → Prop) → Prop
/-- what follows a value -/
def Cont (K : PySem.W.Frag) (sx : Sx) (F H : Hp) (Q : D → Prop) (R : VK) : Prop := ∀ d v F' H', Q d → Ext2 sx F H F' H' → Dt K F' v d → R v H'
/-- what follows a new list -/
def ContL (K : PySem.W.Frag) (sx : Sx) (F H : Hp) (Q : D → Prop) (R : VK) : Prop :=
  ∀ ds xs a F' H', Q (.list ds) → Ext2 sx F H F' H' → H' a = some (.lst xs) → DtL K F' xs ds → F' a = none → H a = none → R (.ref a) H'
/-- what follows a new dict -/
def ContD (K : PySem.W.Frag) (sx : Sx) (F H : Hp) (Q : D → Prop) (R : VK) : Prop :=
  ∀ es a F' H', Q (.dict es) → Ext2 sx F H F' H' → OwnAt K F' H' a (.dict es) → F' a = none → H a = none → R (.ref a) H'
def ContO (K : PySem.W.Frag) (sx : Sx) (F H : Hp) (σ : L2.St) (η : En) (Q : D → Prop) (R : VK) : Prop := ∀ d v F' H', Q d → Ext2 sx F H F' H' → Op K F' σ η v d → R v H'
def ContT (sx : Sx) (F H : Hp) (Q : Bool → Prop) (R : Bool → Hp → Prop) : Prop := ∀ b F' H', Q b → Ext2 sx F H F' H' → R b H'
abbrev OpL (K : PySem.W.Frag) (F : Hp) (σ : L2.St) (η : En) : List V → List D → Prop := Paired (Op K F σ η)
def ContA (K : PySem.W.Frag) (sx : Sx) (F H : Hp) (σ : L2.St) (η : En) (Q : List D → Prop) (R : List V → Hp → Prop) : Prop := ∀ ds vs F' H', Q ds → Ext2 sx F H F' H' → OpL K F' σ η vs ds → R vs H'
def ContB (K : PySem.W.Frag) (sx : Sx) (F H : Hp) (Q : List D → Prop) (R : List V → Hp → Prop) : Prop := ∀ ds vs F' H', Q ds → Ext2 sx F H F' H' → DtL K F' vs ds → R vs H'

def SemE (K : PySem.W.Frag) (t : TE) (w : WE) : Prop := ∀ {sx : Sx} {H0 F0 F : Hp} {σ : L2.St} {H : Hp} {η : En} {Q : D → Prop} {R : VK}, Rep K sx H0 F0 F σ H η → w η Q → Cont K sx F H Q R → t σ H R
def SemL (K : PySem.W.Frag) (t : TE) (w : WE) : Prop := ∀ {sx : Sx} {H0 F0 F : Hp} {σ : L2.St} {H : Hp} {η : En} {Q : D → Prop} {R : VK}, Rep K sx H0 F0 F σ H η → w η Q → ContL K sx F H Q R → t σ H R
def SemD (K : PySem.W.Frag) (t : TE) (w : WE) : Prop := ∀ {sx : Sx} {H0 F0 F : Hp} {σ : L2.St} {H : Hp} {η : En} {Q : D → Prop} {R : VK}, Rep K sx H0 F0 F σ H η → w η Q → ContD K sx F H Q R → t σ H R
def SemO (K : PySem.W.Frag) (t : TE) (w : WE) : Prop := ∀ {sx : Sx} {H0 F0 F : Hp} {σ : L2.St} {H : Hp} {η : En} {Q : D → Prop} {R : VK}, Rep K sx H0 F0 F σ H η → w η Q → ContO K sx F H σ η Q R → t σ H R
def SemT (K : PySem.W.Frag) (t : TT) (w : WT) : Prop := ∀ {sx : Sx} {H0 F0 F : Hp} {σ : L2.St} {H : Hp} {η : En} {Q : Bool → Prop} {R : Bool → Hp → Prop}, Rep K sx H0 F0 F σ H η → w η Q → ContT sx F H Q R → t σ H R
def SemA (K : PySem.W.Frag) (t : TA) (w : WA) : Prop := ∀ {sx : Sx} {H0 F0 F : Hp} {σ : L2.St} {H : Hp} {η : En} {Q : List D → Prop} {R : List V → Hp → Prop}, Rep K sx H0 F0 F σ H η → w η Q → ContA K sx F H σ η Q R → t σ H R
def SemB (K : PySem.W.Frag) (t : TA) (w : WA) : Prop := ∀ {sx : Sx} {H0 F0 F : Hp} {σ : L2.St} {H : Hp} {η : En} {Q : List D → Prop} {R : List V → Hp → Prop}, Rep K sx H0 F0 F σ H η → w η Q → ContB K sx F H Q R → t σ H R

/-- an expression: what it gives is frozen -/
structure DE (X : Cx) (e : Expr) (t : TE) (w : WE) : Prop where
  pe : PE X e t
  sem : SemE X.K t w
/-- .. a new list, of its own -/
structure DL (X : Cx) (e : Expr) (t : TE) (w : WE) : Prop where
  pe : PE X e t
  sem : SemL X.K t w
/-- .. a new dict -/
structure DD (X : Cx) (e : Expr) (t : TE) (w : WE) : Prop where
  pe : PE X e t
  sem : SemD X.K t w
/-- .. an operand -/
structure DO (X : Cx) (e : Expr) (t : TE) (w : WE) : Prop where
  pe : PE X e t
  sem : SemO X.K t w
structure DTs (X : Cx) (e : Expr) (t : TT) (w : WT) : Prop where
  pt : PT X e t
  sem : SemT X.K t w
structure DW (X : Cx) (e : Expr) (t : TT) (w : WT) : Prop where
  pw : PW X e t
  sem : SemT X.K t w
/-- operands in a row -/
structure DA (X : Cx) (es : List Expr) (t : TA) (w : WA) : Prop where
  pa : PA X es t
  sem : SemA X.K t w
/-- frozen values in a row -/
structure DB (X : Cx) (es : List Expr) (t : TA) (w : WA) : Prop where
  pa : PA X es t
  sem : SemB X.K t w

section
variable {K : PySem.W.Frag} {sx : Sx} {F H F1 H1 : Hp} {σ : L2.St} {η : En} {Q : D → Prop} {R : VK}
theorem Cont.ext (k : Cont K sx F H Q R) (e : Ext2 sx F H F1 H1) : Cont K sx F1 H1 Q R := fun d v F' H' q e' h => k d v F' H' q (e.trans e') h
theorem ContL.ext (k : ContL K sx F H Q R) (e : Ext2 sx F H F1 H1) : ContL K sx F1 H1 Q R := fun ds xs a F' H' q e' h1 h2 h3 h4 => k ds xs a F' H' q (e.trans e') h1 h2 h3 (e.back h4)
theorem ContD.ext (k : ContD K sx F H Q R) (e : Ext2 sx F H F1 H1) : ContD K sx F1 H1 Q R := fun es a F' H' q e' h1 h2 h3 => k es a F' H' q (e.trans e') h1 h2 (e.back h3)
theorem ContT.ext {Q : Bool → Prop} {R : Bool → Hp → Prop} (k : ContT sx F H Q R) (e : Ext2 sx F H F1 H1) : ContT sx F1 H1 Q R := fun b F' H' q e' => k b F' H' q (e.trans e')
theorem Cont.now (k : Cont K sx F H Q R) (b : Base sx F H) {d : D} {v : V} (q : Q d) (h : Dt K F v d) : R v H := k d v F H q (.refl b) h
/-- a new list is frozen at once -/
theorem Cont.list (k : Cont K sx F H Q R) : ContL K sx F H Q R := fun ds xs a F' H' q e h1 h2 h3 h4 => by
  refine k (.list ds) (.ref a) (upd F' a (.lst xs)) H' q ⟨?_, e.sH, ?_, ?_, e.ok⟩ (.lst upd_same (h2.mono ?_))
  · intro b o h
    rw [upd_ne (ne_of_none (e.sF _ _ h) h3)]
    exact e.sF _ _ h
  · intro b o h
    by_cases hb : b = a
    · subst hb; rw [upd_same] at h; cases h; exact h1
    · rw [upd_ne hb] at h; exact e.le _ _ h
  · intro b o h
    by_cases hb : b = a
    · subst hb; exact .inr (.inl h4)
    · rw [upd_ne hb] at h; exact e.fr _ _ h
  · intro b o h
    rw [upd_ne (ne_of_none h h3)]
    exact h
/-- a new list laid -/
theorem ContL.new (k : ContL K sx F H Q R) (b : Base sx F H) {ds : List D} {xs : List V} (q : Q (.list ds)) (h : DtL K F xs ds) : ∀ p, H p = none → R (.ref p) (upd H p (.lst xs)) := fun p hp => by
  refine k ds xs p F (upd H p (.lst xs)) q (.newF b hp) upd_same h ?_ hp
  cases z : F p with
  | none => rfl
  | some o => rw [b.le _ _ z] at hp; cases hp
/-- a new tuple laid -/
theorem Cont.tup (k : Cont K sx F H Q R) (b : Base sx F H) {ds : List D} {xs : List V} (q : Q (.tuple ds)) (h : DtL K F xs ds) : mkT H xs R := fun p o hp ho => by
  have e := Ext2.new (o := .frz o (.tup xs)) b hp
  exact k (.tuple ds) (.ref p) _ _ q e (.tup ⟨o, ho, upd_same⟩ (h.mono e.sF))
theorem OpL.mono {vs : List V} {ds : List D} (h : OpL K F σ η vs ds) (e : Same F F1) : OpL K F1 σ η vs ds := Paired.mapP h fun _ _ z => z.mono e
end

section
variable {X : Cx} {e : Expr} {t : TE} {w : WE}
theorem SemE.op {K : PySem.W.Frag} (h : SemE K t w) : SemO K t w := fun r hw k => h r hw fun d v F' H' q e z => k d v F' H' q e (.inl z)
theorem DE.op (h : DE X e t w) : DO X e t w := ⟨h.pe, SemE.op h.sem⟩
theorem SemL.fr {K : PySem.W.Frag} (h : SemL K t w) : SemE K t w := fun r hw k => h r hw k.list
theorem DL.fr (h : DL X e t w) : DE X e t w := ⟨h.pe, SemL.fr h.sem⟩
theorem DL.op (h : DL X e t w) : DO X e t w := h.fr.op
end

/-! ### names, constants -/
def wN (i : Nat) : WE := fun η Q => match η[i]? with
  | some (.fz d) => Q d
  | _ => False
def wB (i : Nat) : WE := fun η Q => match η[i]? with
  | some (.fz d) => Q d
  | some (.ow d) => Q d
  | _ => False
def wC (d : D) : WE := fun _ Q => Q d
theorem Rep.val {K : PySem.W.Frag} {sx : Sx} {H0 F0 F H : Hp} {σ : L2.St} {η : En} (r : Rep K sx H0 F0 F σ H η) {i : Nat} {s : Slot} (h : η[i]? = some s) : ∃ v, σ[i]? = some v ∧ SlotOk K sx H0 F H v s := by
  have hi : i < η.length := (List.getElem?_eq_some_iff.mp h).1
  have hi' : i < σ.length := by rw [← r.len]; exact hi
  exact ⟨σ[i], List.getElem?_eq_getElem hi', r.sl i s _ h (List.getElem?_eq_getElem hi')⟩
theorem sem_name {K : PySem.W.Frag} {i : Nat} : SemE K (tVar i) (wN i) := fun {sx H0 F0 F σ H η Q R} r hw k => by
  unfold wN at hw
  split at hw
  · rename_i d h
    obtain ⟨v, h1, x, rfl, h2⟩ := r.val h
    exact ⟨x, h1, k.now r.base hw h2⟩
  · exact hw.elim
theorem sem_nameB {K : PySem.W.Frag} {i : Nat} : SemO K (tVar i) (wB i) := fun {sx H0 F0 F σ H η Q R} r hw k => by
  unfold wB at hw
  split at hw
  · rename_i d h
    obtain ⟨v, h1, x, rfl, h2⟩ := r.val h
    exact ⟨x, h1, k d x F H hw (.refl r.base) (.inl h2)⟩
  · rename_i d h
    obtain ⟨v, h1, a, rfl, h2⟩ := r.val h
    exact ⟨.ref a, h1, k d (.ref a) F H hw (.refl r.base) (.inr ⟨i, a, h, h1, rfl⟩)⟩
  · exact hw.elim
section
variable {X : Cx}
theorem de_name (i : Nat) {x : Str} {pos : Pos} (hN : X.N[i]? = some x := by rfl) (hv : Vis X.env.scope x := by first | exact Or.inl rfl | exact Or.inr (Or.inl rfl) | exact Or.inr (Or.inr rfl)) (hd : (x == ("__debug__" : Str)) = false := by decide)
    (hcd : (x == ("__classdict__" : Str)) = false := by decide) : DE X (.Name x pos) (tVar i) (wN i) := ⟨pe_var hN hv hd hcd, sem_name⟩
theorem do_name (i : Nat) {x : Str} {pos : Pos} (hN : X.N[i]? = some x := by rfl) (hv : Vis X.env.scope x := by first | exact Or.inl rfl | exact Or.inr (Or.inl rfl) | exact Or.inr (Or.inr rfl)) (hd : (x == ("__debug__" : Str)) = false := by decide)
    (hcd : (x == ("__classdict__" : Str)) = false := by decide) : DO X (.Name x pos) (tVar i) (wB i) := ⟨pe_var hN hv hd hcd, sem_nameB⟩
theorem sem_const {K : PySem.W.Frag} {v : V} {d : D} (h : ∀ F, Dt K F v d) : SemE K (tC v) (wC d) := fun r hw k => k.now r.base hw (h _)
theorem de_int {i j pos} : DE X (.Constant (.int i) j pos) (tC (.int i)) (wC (.int i)) := ⟨pe_int, sem_const fun _ => .int i⟩
theorem de_bl {b j pos} : DE X (.Constant (.bool b) j pos) (tC (.bl b)) (wC (.bool b)) := ⟨pe_bl, sem_const fun _ => .bl b⟩
theorem de_non {j pos} : DE X (.Constant .none j pos) (tC .non) (wC .none) := ⟨pe_non, sem_const fun _ => .non⟩
theorem de_str {x j pos} : DE X (.Constant (.str x) j pos) (tC (.str x)) (wC (.str x)) := ⟨pe_str, sem_const fun _ => .str x⟩
theorem de_glob {x : Str} {v : V} {u : Value} {d : D} {pos : Pos} (hg : Gl X x) (hm : X.mg x = some u) (r : RelV v u) (h : ∀ F, Dt X.K F v d) (hd : (x == ("__debug__" : Str)) = false := by decide) : DE X (.Name x pos) (tC v) (wC d) := ⟨pe_glob hg hm r hd, sem_const h⟩
end

/-! ### operators -/
/-- a two-place reading over data -/
def RSem (K : PySem.W.Frag) (r : R2) (g : D → D → (D → Prop) → Prop) : Prop :=
  ∀ {sx : Sx} {F H : Hp} {x y : V} {dx dy : D} {Q : D → Prop} {R : VK}, Base sx F H → Nw K F H x dx → Nw K F H y dy → g dx dy Q → Cont K sx F H Q R → r x y H R
def RSemL (K : PySem.W.Frag) (r : R2) (g : D → D → (D → Prop) → Prop) : Prop :=
  ∀ {sx : Sx} {F H : Hp} {x y : V} {dx dy : D} {Q : D → Prop} {R : VK}, Base sx F H → Nw K F H x dx → Nw K F H y dy → g dx dy Q → ContL K sx F H Q R → r x y H R
def w2 (g : D → D → (D → Prop) → Prop) (wa wb : WE) : WE := fun η Q => wa η fun x => wb η fun y => g x y Q
theorem sem_op {K : PySem.W.Frag} {r : R2} {g : D → D → (D → Prop) → Prop} {ta tb : TE} {wa wb : WE} (hs : RSem K r g) (ha : SemO K ta wa) (hb : SemO K tb wb) : SemE K (tOp r ta tb) (w2 g wa wb) := fun {sx H0 F0 F σ H η Q R} rp hw k =>
  ha rp hw fun dx x F1 H1 q1 e1 o1 => hb (rp.ext e1) q1 fun dy y F2 H2 q2 e2 o2 =>
    let r2 := (rp.ext e1).ext e2
    hs r2.base ((o1.mono e2.sF).nw r2) (o2.nw r2) q2 (k.ext (e1.trans e2))
theorem sem_opL {K : PySem.W.Frag} {r : R2} {g : D → D → (D → Prop) → Prop} {ta tb : TE} {wa wb : WE} (hs : RSemL K r g) (ha : SemO K ta wa) (hb : SemO K tb wb) : SemL K (tOp r ta tb) (w2 g wa wb) := fun {sx H0 F0 F σ H η Q R} rp hw k =>
  ha rp hw fun dx x F1 H1 q1 e1 o1 => hb (rp.ext e1) q1 fun dy y F2 H2 q2 e2 o2 =>
    let r2 := (rp.ext e1).ext e2
    hs r2.base ((o1.mono e2.sF).nw r2) (o2.nw r2) q2 (k.ext (e1.trans e2))
section
variable {X : Cx} {a b : Expr} {ta tb : TE} {wa wb : WE} {r : R2} {g : D → D → (D → Prop) → Prop}
theorem de_op {op : Operator} {pos : Pos} (ho : OpR X (binaryOp op) r) (hs : RSem X.K r g) (ha : DO X a ta wa) (hb : DO X b tb wb) : DE X (.BinOp a op b pos) (tOp r ta tb) (w2 g wa wb) := ⟨pe_op ho ha.pe hb.pe, sem_op hs ha.sem hb.sem⟩
theorem dl_op {op : Operator} {pos : Pos} (ho : OpR X (binaryOp op) r) (hs : RSemL X.K r g) (ha : DO X a ta wa) (hb : DO X b tb wb) : DL X (.BinOp a op b pos) (tOp r ta tb) (w2 g wa wb) := ⟨pe_op ho ha.pe hb.pe, sem_opL hs ha.sem hb.sem⟩
theorem de_cmp {op : CmpOp} {pos : Pos} (ho : OpR X (compareOp op) r) (hs : RSem X.K r g) (hm : behindInMarks op b = false) (ha : DO X a ta wa) (hb : DO X b tb wb) : DE X (.Compare a [op] [b] pos) (tOp r ta tb) (w2 g wa wb) := ⟨pe_cmpR ho ha.pe hb.pe hm, sem_op hs ha.sem hb.sem⟩
end

/-- + -/
def gAdd : D → D → (D → Prop) → Prop
  | .int i, .int j, Q => Q (.int (i + j))
  | .str x, .str y, Q => x.length + y.length ≤ sizeLine ∧ Q (.str (x ++ y))
  | .list x, .list y, Q => x.length + y.length ≤ sizeLine ∧ Q (.list (x ++ y))
  | .tuple x, .tuple y, Q => x.length + y.length ≤ sizeLine ∧ Q (.tuple (x ++ y))
  | _, _, _ => False
def rAddA (K : PySem.W.Frag) : R2 := fun x y H Q => rI0 (fun i j => .int (i + j)) x y H Q ∨ (∃ i j, x = .str i ∧ y = .str j ∧ i.length + j.length ≤ sizeLine ∧ Q (.str (i ++ j)) H) ∨ rCat x y H Q ∨ rCatN K x y H Q
theorem op_addA {X : Cx} : OpR X (binaryOp .Add) (rAddA X.K) := OpR.or op_add (OpR.or op_add_str (OpR.or op_cat op_catN))
theorem DtL.nil_iff {K : PySem.W.Frag} {F : Hp} {vs : List V} {ds : List D} (h : DtL K F vs ds) : vs = [] ↔ ds = [] := by
  cases h with
  | nil => simp
  | cons _ _ => simp
theorem catL {K : PySem.W.Frag} {sx : Sx} {F H : Hp} {x y : V} {as bs : List D} {Q : D → Prop} {R : VK} (b : Base sx F H) (hx : Nw K F H x (.list as)) (hy : Nw K F H y (.list bs)) (hl : as.length + bs.length ≤ sizeLine) (q : Q (.list (as ++ bs))) (k : ContL K sx F H Q R) : rCat x y H R := by
  obtain ⟨a, xs, rfl, h1, h2⟩ := hx.list b.le
  obtain ⟨c, ys, rfl, h3, h4⟩ := hy.list b.le
  exact ⟨a, c, xs, ys, rfl, rfl, h1, h3, by rw [h2.length, h4.length]; exact hl, k.new b q (h2.append h4)⟩
theorem rs_add {K : PySem.W.Frag} : RSem K (rAddA K) gAdd := fun {sx F H x y dx dy Q R} b hx hy hg k => by
  cases dx <;> cases dy <;> first | exact hg.elim | skip
  · cases hx.int; cases hy.int
    exact .inl ⟨_, _, rfl, rfl, k.now b hg (.int _)⟩
  · cases hx.str; cases hy.str
    exact .inr (.inl ⟨_, _, rfl, rfl, hg.1, k.now b hg.2 (.str _)⟩)
  · exact .inr (.inr (.inl (catL b hx hy hg.1 hg.2 k.list)))
  · obtain ⟨a, xs, rfl, h1, h2⟩ := hx.tupleH b.le
    obtain ⟨c, ys, rfl, h3, h4⟩ := hy.tupleH b.le
    refine .inr (.inr (.inr ⟨a, c, xs, ys, rfl, rfl, h1, h3, by rw [h2.length, h4.length]; exact hg.1, fun e => ?_, fun e e' => ?_, fun _ _ => k.tup b hg.2 (h2.append h4)⟩))
    · have e1 := h2.nil_iff.mp e
      subst e1
      obtain ⟨c', ys', z, h5, h6⟩ := hy.tuple
      cases z
      exact k.now b hg.2 (.tup h5 h6)
    · have e1 := h4.nil_iff.mp e'
      subst e1
      obtain ⟨c', ys', z, h5, h6⟩ := hx.tuple
      cases z
      have q := hg.2
      rw [List.append_nil] at q
      exact k.now b q (.tup h5 h6)
def gCat : D → D → (D → Prop) → Prop
  | .list x, .list y, Q => x.length + y.length ≤ sizeLine ∧ Q (.list (x ++ y))
  | _, _, _ => False
theorem rs_cat {K : PySem.W.Frag} : RSemL K rCat gCat := fun {sx F H x y dx dy Q R} b hx hy hg k => by
  cases dx <;> cases dy <;> first | exact hg.elim | skip
  exact catL b hx hy hg.1 hg.2 k
/-- ints -/
def gI (g : Int → Int → D) : D → D → (D → Prop) → Prop
  | .int i, .int j, Q => Q (g i j)
  | _, _, _ => False
def gIC (C : Int → Int → Prop) (g : Int → Int → D) : D → D → (D → Prop) → Prop
  | .int i, .int j, Q => C i j ∧ Q (g i j)
  | _, _, _ => False
theorem rs_I {K : PySem.W.Frag} {g : Int → Int → V} {g' : Int → Int → D} (h : ∀ F i j, Dt K F (g i j) (g' i j)) : RSem K (rI0 g) (gI g') := fun {sx F H x y dx dy Q R} b hx hy hg k => by
  cases dx <;> cases dy <;> first | exact hg.elim | skip
  cases hx.int; cases hy.int
  exact ⟨_, _, rfl, rfl, k.now b hg (h _ _ _)⟩
theorem rs_IC {K : PySem.W.Frag} {C : Int → Int → Prop} {g : Int → Int → V} {g' : Int → Int → D} (h : ∀ F i j, Dt K F (g i j) (g' i j)) : RSem K (rI C g) (gIC C g') := fun {sx F H x y dx dy Q R} b hx hy hg k => by
  cases dx <;> cases dy <;> first | exact hg.elim | skip
  cases hx.int; cases hy.int
  exact ⟨_, _, rfl, rfl, hg.1, k.now b hg.2 (h _ _ _)⟩
end W2

set_option Elab.async false
set_option linter.all false
set_option maxRecDepth 100000
/-! W2C: readings over data: tests, displays, subscripts, calls of built-ins. -/
namespace W2
open PySem PySem.Spec PyProof.Rows L2

/-! ### data as the library's own (Dp) -/
mutual
theorem Dt.dp {K : PySem.W.Frag} {F H : Hp} (le : Same F H) : ∀ {v : V} {d : D}, Dt K F v d → d.canLay0 = true → Dp K H v d
  | _, _, .non, _ => .non
  | _, _, .bl b, _ => .bl b
  | _, _, .int i, _ => .int i
  | _, _, .str x, _ => .str x
  | _, _, .lst h hs, c => .lst (SqL.of (le _ _ h)) (DtL.dp le hs (by simpa [PyData.canLay0] using c))
  | _, _, .tup h hs, c => .tup (h.mono le).sq (DtL.dp le hs (by simpa [PyData.canLay0] using c))
  | _, _, .dK _ _, c => by simp [PyData.canLay0] at c
  | _, _, .dT _ _ _, c => by simp [PyData.canLay0] at c
theorem DtL.dp {K : PySem.W.Frag} {F H : Hp} (le : Same F H) : ∀ {vs : List V} {ds : List D}, DtL K F vs ds → PyData.canLayAll0 ds = true → DpAll K H vs ds
  | _, _, .nil, _ => .nil
  | _, _, .cons (d := d) (ds := ds) h t, c => by
    have c' : PyData.canLay0 d = true ∧ PyData.canLayAll0 ds = true := by simpa [PyData.canLayAll0] using c
    exact .cons (Dt.dp le h c'.1) (DtL.dp le t c'.2)
end
theorem Nw.dp {K : PySem.W.Frag} {F H : Hp} {v : V} {d : D} (h : Nw K F H v d) (le : Same F H) (c : d.canLay0 = true) : Dp K H v d := by
  rcases h with h | ⟨a, rfl, h⟩
  · exact h.dp le c
  · cases d with
    | list ds =>
      obtain ⟨xs, h1, h2⟩ := h
      exact .lst (SqL.of h1) (h2.dp le (by simpa [PyData.canLay0] using c))
    | dict es => simp [PyData.canLay0] at c
    | _ => exact h.elim

/-! ### == and != -/
/-- two lists of unlike length: what stands in them is not looked at -/
def unl : D → D → Bool
  | .list xs, .list ys => xs.length != ys.length
  | _, _ => false
def eqOk : D → D → Bool
  | .str _, .str _ => true
  | x, y => (SeqAt.shaped x && SeqAt.shaped y) || unl x y
def gEq (x y : D) (Q : D → Prop) : Prop := eqOk x y = true ∧ Q (.bool (PyData.eqv x y))
def gNe (x y : D) (Q : D → Prop) : Prop := eqOk x y = true ∧ Q (.bool (!PyData.eqv x y))
def rUnl (K : PySem.W.Frag) (r : Bool) : R2 := fun x y H Q => ∃ a b xs ys, x = .ref a ∧ y = .ref b ∧ SqL K H a xs ∧ SqL K H b ys ∧ xs.length ≠ ys.length ∧ Q (.bl r) H
theorem op_eqU {X : Cx} (hu : X.A.units < cLine) : OpR X (compareOp .Eq) (rUnl X.K false) := by
  intro pins s σ H x y v u Q I rx ry h
  obtain ⟨a, b, xs, ys, rfl, rfl, ha, hb, hl, q⟩ := h
  cases rx; cases ry
  obtain ⟨us, r1, p1, _⟩ := I.list ha
  obtain ⟨ws, r2, p2, _⟩ := I.list hb
  exact SeqAt.eq_list_lengthsAt p1.isList p2.isList (by simpa [← r1.length, ← r2.length] using hl) hu ⟨.bl _, H, I, rfl, q⟩
theorem op_neU {X : Cx} (hu : X.A.units < cLine) : OpR X (compareOp .NotEq) (rUnl X.K true) := by
  intro pins s σ H x y v u Q I rx ry h
  obtain ⟨a, b, xs, ys, rfl, rfl, ha, hb, hl, q⟩ := h
  cases rx; cases ry
  obtain ⟨us, r1, p1, _⟩ := I.list ha
  obtain ⟨ws, r2, p2, _⟩ := I.list hb
  exact SeqAt.RcNeAt.lists_lengths p1.isList p2.isList (by simpa [← r1.length, ← r2.length] using hl) hu X.prog X.w _ _ ⟨.bl _, H, I, rfl, q⟩
def rEqA (K : PySem.W.Frag) : R2 := fun x y H Q => (rEq x y H Q ∨ rEqD K x y H Q) ∨ rUnl K false x y H Q
def rNeA (K : PySem.W.Frag) : R2 := fun x y H Q => (rNe x y H Q ∨ rNeD K x y H Q) ∨ rUnl K true x y H Q
theorem op_eqA {X : Cx} (hu : X.A.units + 64 < cLine) : OpR X (compareOp .Eq) (rEqA X.K) := OpR.or (OpR.or op_eq (op_eqD hu)) (op_eqU (Nat.lt_of_le_of_lt (Nat.le_add_right _ _) hu))
theorem op_neA {X : Cx} (hu : X.A.units + 64 < cLine) : OpR X (compareOp .NotEq) (rNeA X.K) := OpR.or (OpR.or op_ne (op_neD hu)) (op_neU (Nat.lt_of_le_of_lt (Nat.le_add_right _ _) hu))
theorem unl_cases {x y : D} (h : unl x y = true) : ∃ xs ys, x = .list xs ∧ y = .list ys ∧ xs.length ≠ ys.length := by
  unfold unl at h
  split at h
  · exact ⟨_, _, rfl, rfl, by simpa using h⟩
  · cases h
theorem eqvAll_len : ∀ {xs ys : List D}, xs.length ≠ ys.length → PyData.eqvAll xs ys = false
  | [], [], h => absurd rfl h
  | [], _ :: _, _ => rfl
  | _ :: _, [], _ => rfl
  | x :: xs, y :: ys, h => by
    show (PyData.eqv x y && PyData.eqvAll xs ys) = false
    rw [eqvAll_len (fun z => h (congrArg (· + 1) z)), Bool.and_false]
theorem eqOk_cases {x y : D} (h : eqOk x y = true) : (∃ a b, x = .str a ∧ y = .str b) ∨ (SeqAt.shaped x = true ∧ SeqAt.shaped y = true) ∨ ∃ xs ys, x = .list xs ∧ y = .list ys ∧ xs.length ≠ ys.length := by
  unfold eqOk at h
  split at h
  · exact .inl ⟨_, _, rfl, rfl⟩
  · rcases Bool.or_eq_true_iff.mp h with h | h
    · exact .inr (.inl (by simpa using h))
    · exact .inr (.inr (unl_cases h))
/-- a list against the empty list: whatever stands in it -/
theorem eqOk_nil (xs : List D) : eqOk (.list xs) (.list []) = true := by
  cases xs with
  | nil => rfl
  | cons x xs =>
    show (_ || unl _ _) = true
    rw [Bool.or_eq_true_iff]
    exact .inr (by simp [unl])
theorem str_eqv (a b : Str) : decide (V.str a = V.str b) = PyData.eqv (.str a) (.str b) := by
  show _ = (a == b)
  by_cases e : a = b
  · subst e; simp
  · rw [decide_eq_false (fun z => e (V.str.inj z))]
    exact (beq_eq_false_iff_ne.mpr e).symm
theorem rs_eq {K : PySem.W.Frag} : RSem K (rEqA K) gEq := fun {sx F H x y dx dy Q R} b hx hy hg k => by
  rcases eqOk_cases hg.1 with ⟨a, c, rfl, rfl⟩ | ⟨h1, h2⟩ | ⟨xs, ys, rfl, rfl, hl⟩
  · cases hx.str; cases hy.str
    refine .inl (.inl ⟨rfl, ?_⟩)
    rw [str_eqv]
    exact k.now b hg.2 (.bl _)
  · exact .inl (.inr ⟨dx, dy, hx.dp b.le (SeqAt.canLay_of_shaped h1), hy.dp b.le (SeqAt.canLay_of_shaped h2), h1, h2, k.now b hg.2 (.bl _)⟩)
  · obtain ⟨a, us, rfl, p1, q1⟩ := hx.list b.le
    obtain ⟨c, ws, rfl, p2, q2⟩ := hy.list b.le
    have e : PyData.eqv (.list xs) (.list ys) = false := eqvAll_len hl
    have z := hg.2
    rw [e] at z
    exact .inr ⟨a, c, us, ws, rfl, rfl, SqL.of p1, SqL.of p2, by rw [q1.length, q2.length]; exact hl, k.now b z (.bl _)⟩
theorem rs_ne {K : PySem.W.Frag} : RSem K (rNeA K) gNe := fun {sx F H x y dx dy Q R} b hx hy hg k => by
  rcases eqOk_cases hg.1 with ⟨a, c, rfl, rfl⟩ | ⟨h1, h2⟩ | ⟨xs, ys, rfl, rfl, hl⟩
  · cases hx.str; cases hy.str
    refine .inl (.inl ⟨rfl, ?_⟩)
    rw [str_eqv]
    exact k.now b hg.2 (.bl _)
  · exact .inl (.inr ⟨dx, dy, hx.dp b.le (SeqAt.canLay_of_shaped h1), hy.dp b.le (SeqAt.canLay_of_shaped h2), h1, h2, k.now b hg.2 (.bl _)⟩)
  · obtain ⟨a, us, rfl, p1, q1⟩ := hx.list b.le
    obtain ⟨c, ws, rfl, p2, q2⟩ := hy.list b.le
    have e : PyData.eqv (.list xs) (.list ys) = false := eqvAll_len hl
    have z := hg.2
    rw [e] at z
    exact .inr ⟨a, c, us, ws, rfl, rfl, SqL.of p1, SqL.of p2, by rw [q1.length, q2.length]; exact hl, k.now b z (.bl _)⟩
/-- in, not in: a list or a tuple of data -/
def gIn (neg : Bool) : D → D → (D → Prop) → Prop
  | x, .list ds, Q => SeqAt.shaped x = true ∧ SeqAt.shaped (.list ds) = true ∧ Q (.bool (if neg then !ds.any (fun z => PyData.eqv z x) else ds.any fun z => PyData.eqv z x))
  | _, _, _ => False
theorem rs_inL {K : PySem.W.Frag} : RSem K (rInD K) (gIn false) := fun {sx F H x y dx dy Q R} b hx hy hg k => by
  cases dy <;> first | exact hg.elim | skip
  obtain ⟨h1, h2, q⟩ := hg
  exact ⟨_, _, hx.dp b.le (SeqAt.canLay_of_shaped h1), hy.dp b.le (SeqAt.canLay_of_shaped h2), h1, h2, k.now b q (.bl _)⟩
theorem rs_notInL {K : PySem.W.Frag} : RSem K (rNotInD K) (gIn true) := fun {sx F H x y dx dy Q R} b hx hy hg k => by
  cases dy <;> first | exact hg.elim | skip
  obtain ⟨h1, h2, q⟩ := hg
  exact ⟨_, _, hx.dp b.le (SeqAt.canLay_of_shaped h1), hy.dp b.le (SeqAt.canLay_of_shaped h2), h1, h2, k.now b q (.bl _)⟩
/-- is None, is not None -/
def gIsN (neg : Bool) : D → D → (D → Prop) → Prop
  | .none, .none, Q => Q (.bool (!neg))
  | _, .none, Q => Q (.bool neg)
  | _, _, _ => False
theorem Nw.notNon {K : PySem.W.Frag} {F H : Hp} {v : V} {d : D} (h : Nw K F H v d) (hd : d ≠ .none) : v ≠ .non := by
  rintro rfl
  rcases h with h | ⟨a, e, _⟩
  · cases h; exact hd rfl
  · cases e
theorem rs_isN {K : PySem.W.Frag} : RSem K (fun x y H Q => y = .non ∧ Q (.bl (decide (x = .non))) H) (gIsN false) := fun {sx F H x y dx dy Q R} b hx hy hg k => by
  cases dy <;> first | (cases dx <;> exact hg.elim) | skip
  cases hy.none
  refine ⟨rfl, ?_⟩
  by_cases e : dx = .none
  · subst e
    cases hx.none
    exact k.now b (show Q (.bool true) from hg) (.bl _)
  · rw [decide_eq_false (hx.notNon e)]
    refine k.now b (d := .bool false) ?_ (.bl _)
    cases dx <;> first | exact absurd rfl e | exact hg
theorem rs_notN {K : PySem.W.Frag} : RSem K (fun x y H Q => y = .non ∧ Q (.bl (!decide (x = .non))) H) (gIsN true) := fun {sx F H x y dx dy Q R} b hx hy hg k => by
  cases dy <;> first | (cases dx <;> exact hg.elim) | skip
  cases hy.none
  refine ⟨rfl, ?_⟩
  by_cases e : dx = .none
  · subst e
    cases hx.none
    exact k.now b (show Q (.bool false) from hg) (.bl _)
  · rw [decide_eq_false (hx.notNon e)]
    refine k.now b (d := .bool true) ?_ (.bl _)
    cases dx <;> first | exact absurd rfl e | exact hg
/-- is True, is False -/
def gIsB (neg : Bool) : D → D → (D → Prop) → Prop
  | .bool a, .bool c, Q => Q (.bool (if neg then !decide (a = c) else decide (a = c)))
  | _, _, _ => False
theorem rs_isB {K : PySem.W.Frag} : RSem K rIsB (gIsB false) := fun {sx F H x y dx dy Q R} b hx hy hg k => by
  cases dx <;> cases dy <;> first | exact hg.elim | skip
  cases hx.bool; cases hy.bool
  exact ⟨_, _, rfl, rfl, k.now b hg (.bl _)⟩
theorem rs_notB {K : PySem.W.Frag} : RSem K rNotB (gIsB true) := fun {sx F H x y dx dy Q R} b hx hy hg k => by
  cases dx <;> cases dy <;> first | exact hg.elim | skip
  cases hx.bool; cases hy.bool
  exact ⟨_, _, rfl, rfl, k.now b hg (.bl _)⟩

/-! ### one-place operators -/
def w1 (g : D → (D → Prop) → Prop) (wa : WE) : WE := fun η Q => wa η fun x => g x Q
def gNeg : D → (D → Prop) → Prop
  | .int i, Q => Q (.int (-i))
  | _, _ => False
theorem de_neg {X : Cx} {a : Expr} {ta : TE} {wa : WE} {pos : Pos} (ha : DO X a ta wa) : DE X (.UnaryOp .USub a pos) (tUn (rU fun i => .int (-i)) ta) (w1 gNeg wa) :=
  ⟨pe_un un_neg ha.pe, fun {sx H0 F0 F σ H η Q R} r hw k => ha.sem r hw fun d v F1 H1 q e o => by
    cases d <;> first | exact q.elim | skip
    cases (o.nw (r.ext e)).int
    exact ⟨_, rfl, (k.ext e).now (r.ext e).base q (.int _)⟩⟩

/-! ### truth -/
def truth : D → Option Bool
  | .none => some false
  | .bool b => some b
  | .int i => some (i != 0)
  | .list ds => some (!ds.isEmpty)
  | .tuple ds => some (!ds.isEmpty)
  | _ => none
theorem truth_ok {K : PySem.W.Frag} {sx : Sx} {F H : Hp} {v : V} {d : D} {k : Bool} (b : Base sx F H) (h : Nw K F H v d) (e : truth d = some k) : TruV K v H k := by
  cases d with
  | none => cases h.none; cases e; rfl
  | bool c => cases h.bool; cases e; rfl
  | int i => cases h.int; cases e; rfl
  | str x => cases e
  | list ds =>
    obtain ⟨a, xs, rfl, h1, h2⟩ := h.list b.le
    cases e
    refine .inl ⟨xs, SqL.of h1, ?_⟩
    cases h2 <;> rfl
  | tuple ds =>
    obtain ⟨a, xs, rfl, h1, h2⟩ := h.tupleH b.le
    cases e
    refine .inr (.inl ⟨xs, h1, ?_⟩)
    cases h2 <;> rfl
  | dict es => cases e
/-- an expression as a test -/
def wTr (wa : WE) : WT := fun η Q => wa η fun d => ∃ k, truth d = some k ∧ Q k
def wTrB (wa : WE) : WT := fun η Q => wa η fun d => match d with
  | .bool k => Q k
  | _ => False
section
variable {X : Cx} {a b c : Expr} {ta tb tc : TE} {wa wb wc : WE} {tA tB' tC' : TT} {vA vB vC : WT} {pos : Pos} {rest : List Expr}
theorem dt_truth (ha : DO X a ta wa) (he : ∀ whole, isTrue a X.env whole = (do let v ← whole; standAt a.pos; holding [v] (truthy v)) := by intro _; rfl) : DTs X a (fun σ H Q => ta σ H fun x H' => ∃ k, TruV X.K x H' k ∧ Q k H') (wTr wa) :=
  ⟨pt_truth ha.pe he, fun {sx H0 F0 F σ H η Q R} r hw k => ha.sem r hw fun d v F1 H1 ⟨j, hj, q⟩ e o => ⟨j, truth_ok (r.ext e).base (o.nw (r.ext e)) hj, k j F1 H1 q e⟩⟩
theorem sem_testB {K : PySem.W.Frag} (ha : SemE K ta wa) : SemT K (fun σ H Q => ta σ H fun x H' => ∃ k, x = .bl k ∧ Q k H') (wTrB wa) := fun {sx H0 F0 F σ H η Q R} r hw k => ha r hw fun d v F1 H1 q e o => by
  cases d <;> first | exact q.elim | skip
  cases o
  exact ⟨_, rfl, k _ F1 H1 q e⟩
theorem dt_cmp {op : CmpOp} {r : R2} {g : D → D → (D → Prop) → Prop} (ho : OpR X (compareOp op) r) (hs : RSem X.K r g) (hm : behindInMarks op b = false) (ha : DO X a ta wa) (hb : DO X b tb wb) : DTs X (.Compare a [op] [b] pos) (tTest (tOp r ta tb)) (wTrB (w2 g wa wb)) :=
  ⟨pt_cmpR ho ha.pe hb.pe hm, sem_testB (sem_op hs ha.sem hb.sem)⟩
/-- a op b op' c -/
def wChain (g g' : D → D → (D → Prop) → Prop) (wa wb wc : WE) : WE := fun η Q => wa η fun x => wb η fun y => g x y fun z => match z with
  | .bool true => wc η fun w => g' y w Q
  | .bool false => Q (.bool false)
  | _ => False
theorem sem_chain {K : PySem.W.Frag} {r r' : R2} {g g' : D → D → (D → Prop) → Prop} (hs : RSem K r g) (hs' : RSem K r' g') (ha : SemO K ta wa) (hb : SemO K tb wb) (hc : SemO K tc wc) : SemE K (tChain r r' ta tb tc) (wChain g g' wa wb wc) := fun {sx H0 F0 F σ H η Q R} rp hw k =>
  ha rp hw fun dx x F1 H1 q1 e1 o1 => hb (rp.ext e1) q1 fun dy y F2 H2 q2 e2 o2 =>
    let r2 := (rp.ext e1).ext e2
    hs r2.base ((o1.mono e2.sF).nw r2) (o2.nw r2) q2 fun dz z F3 H3 q3 e3 o3 => by
      cases dz <;> first | exact q3.elim | skip
      rename_i bb
      cases o3
      refine ⟨bb, rfl, ?_⟩
      cases bb with
      | false =>
        rw [if_neg Bool.false_ne_true]
        exact (k.ext ((e1.trans e2).trans e3)).now (r2.ext e3).base q3 (.bl _)
      | true =>
        rw [if_pos rfl]
        refine hc (r2.ext e3) q3 fun dw w F4 H4 q4 e4 o4 => ?_
        have r4 := (r2.ext e3).ext e4
        exact hs' r4.base ((o2.mono (e3.sF.trans e4.sF)).nw r4) (o4.nw r4) q4 (k.ext (((e1.trans e2).trans e3).trans e4))
theorem de_chain {op op' : CmpOp} {r r' : R2} {g g' : D → D → (D → Prop) → Prop} (ho : OpR X (compareOp op) r) (hs : RSem X.K r g) (ho' : OpR X (compareOp op') r') (hs' : RSem X.K r' g') (ha : DO X a ta wa) (hb : DO X b tb wb) (hc : DO X c tc wc)
    (hm : lastMarks [op, op'] [b, c] = false := by with_unfolding_all rfl) : DE X (.Compare a [op, op'] [b, c] pos) (tChain r r' ta tb tc) (wChain g g' wa wb wc) := ⟨pe_chain ho ho' ha.pe hb.pe hc.pe hm, sem_chain hs hs' ha.sem hb.sem hc.sem⟩
theorem dt_chain {op op' : CmpOp} {r r' : R2} {g g' : D → D → (D → Prop) → Prop} (ho : OpR X (compareOp op) r) (hs : RSem X.K r g) (ho' : OpR X (compareOp op') r') (hs' : RSem X.K r' g') (ha : DO X a ta wa) (hb : DO X b tb wb) (hc : DO X c tc wc)
    (hm : lastMarks [op, op'] [b, c] = false := by with_unfolding_all rfl) : DTs X (.Compare a [op, op'] [b, c] pos) (tTest (tChain r r' ta tb tc)) (wTrB (wChain g g' wa wb wc)) := ⟨pt_chain ho ho' ha.pe hb.pe hc.pe hm, sem_testB (sem_chain hs hs' ha.sem hb.sem hc.sem)⟩
def wNotT (vA : WT) : WT := fun η Q => vA η fun b => Q (!b)
theorem dt_not (ha : DTs X a tA vA) : DTs X (.UnaryOp .Not a pos) (tNot tA) (wNotT vA) := ⟨pt_not ha.pt, fun r hw k => ha.sem r hw fun b F1 H1 q e => k (!b) F1 H1 q e⟩
def wAndT (vA vB : WT) : WT := fun η Q => vA η fun b => if b = true then vB η Q else Q false
def wOrT (vA vB : WT) : WT := fun η Q => vA η fun b => if b = true then Q true else vB η Q
theorem dw_and1 (ha : DTs X a tA vA) : DW X (.BoolOp .And [a] pos) tA vA := ⟨pw_and1 ha.pt, ha.sem⟩
theorem dw_or1 (ha : DTs X a tA vA) : DW X (.BoolOp .Or [a] pos) tA vA := ⟨pw_or1 ha.pt, ha.sem⟩
theorem dw_and (ha : DTs X a tA vA) (hb : DW X (.BoolOp .And (b :: rest) pos) tB' vB) : DW X (.BoolOp .And (a :: b :: rest) pos) (tAnd tA tB') (wAndT vA vB) :=
  ⟨pw_and ha.pt hb.pw, fun r hw k => ha.sem r hw fun b F1 H1 q e => by
    cases b with
    | true => rw [if_pos rfl] at q ⊢; exact hb.sem (r.ext e) q (k.ext e)
    | false => rw [if_neg Bool.false_ne_true] at q ⊢; exact k false F1 H1 q e⟩
theorem dw_or (ha : DTs X a tA vA) (hb : DW X (.BoolOp .Or (b :: rest) pos) tB' vB) : DW X (.BoolOp .Or (a :: b :: rest) pos) (tOr tA tB') (wOrT vA vB) :=
  ⟨pw_or ha.pt hb.pw, fun r hw k => ha.sem r hw fun b F1 H1 q e => by
    cases b with
    | true => rw [if_pos rfl] at q ⊢; exact k true F1 H1 q e
    | false => rw [if_neg Bool.false_ne_true] at q ⊢; exact hb.sem (r.ext e) q (k.ext e)⟩
theorem DW.t (h : DW X a tA vA) : DTs X a tA vA := ⟨h.pw.pt, h.sem⟩
def wIfE (vA : WT) (wa wb : WE) : WE := fun η Q => vA η fun b => if b = true then wa η Q else wb η Q
theorem de_ifExp (hc : DTs X c tA vA) (ha : DE X a ta wa) (hb : DE X b tb wb) : DE X (.IfExp c a b pos) (tIf tA ta tb) (wIfE vA wa wb) :=
  ⟨pe_ifExp hc.pt ha.pe hb.pe, fun r hw k => hc.sem r hw fun b F1 H1 q e => by
    cases b with
    | true => rw [if_pos rfl] at q ⊢; exact ha.sem (r.ext e) q (k.ext e)
    | false => rw [if_neg Bool.false_ne_true] at q ⊢; exact hb.sem (r.ext e) q (k.ext e)⟩
/-- and, or, not as values: all but the last are True or False -/
def wAndV (wa wb : WE) : WE := fun η Q => wa η fun d => match d with
  | .bool true => wb η Q
  | .bool false => Q (.bool false)
  | _ => False
def wOrV (wa wb : WE) : WE := fun η Q => wa η fun d => match d with
  | .bool true => Q (.bool true)
  | .bool false => wb η Q
  | _ => False
theorem de_one {op} (h : DE X a ta wa) : DE X (.BoolOp op [a] pos) ta wa := ⟨pe_one h.pe, h.sem⟩
theorem de_and (ha : DE X a ta wa) (hb : DE X (.BoolOp .And (b :: rest) pos) tb wb) : DE X (.BoolOp .And (a :: b :: rest) pos) (tAndV ta tb) (wAndV wa wb) :=
  ⟨pe_and ha.pe hb.pe, fun r hw k => ha.sem r hw fun d v F1 H1 q e h => by
    cases d <;> first | exact q.elim | skip
    rename_i bb
    cases h
    refine ⟨bb, rfl, ?_⟩
    cases bb with
    | true => rw [if_pos rfl]; exact hb.sem (r.ext e) q (k.ext e)
    | false => rw [if_neg Bool.false_ne_true]; exact (k.ext e).now (r.ext e).base q (.bl _)⟩
theorem de_or (ha : DE X a ta wa) (hb : DE X (.BoolOp .Or (b :: rest) pos) tb wb) : DE X (.BoolOp .Or (a :: b :: rest) pos) (tOrV ta tb) (wOrV wa wb) :=
  ⟨pe_or ha.pe hb.pe, fun r hw k => ha.sem r hw fun d v F1 H1 q e h => by
    cases d <;> first | exact q.elim | skip
    rename_i bb
    cases h
    refine ⟨bb, rfl, ?_⟩
    cases bb with
    | true => rw [if_pos rfl]; exact (k.ext e).now (r.ext e).base q (.bl _)
    | false => rw [if_neg Bool.false_ne_true]; exact hb.sem (r.ext e) q (k.ext e)⟩
def gNotB : D → (D → Prop) → Prop
  | .bool b, Q => Q (.bool (!b))
  | _, _ => False
theorem de_not (ha : DE X a ta wa) : DE X (.UnaryOp .Not a pos) (tNotV ta) (w1 gNotB wa) :=
  ⟨pe_not ha.pe, fun r hw k => ha.sem r hw fun d v F1 H1 q e h => by
    cases d <;> first | exact q.elim | skip
    cases h
    exact ⟨_, rfl, (k.ext e).now (r.ext e).base q (.bl _)⟩⟩
end

/-! ### rows of values -/
def wNil : WA := fun _ Q => Q []
def wCons (wa : WE) (wr : WA) : WA := fun η Q => wa η fun d => wr η fun ds => Q (d :: ds)
section
variable {X : Cx} {e : Expr} {es : List Expr} {te : TE} {t : TA} {we : WE} {w : WA} {pos : Pos}
theorem da_nil : DA X [] tNil wNil := ⟨pa_nil, fun r hw k => k [] [] _ _ hw (.refl r.base) .nil⟩
theorem da_cons (h : DO X e te we) (hr : DA X es t w) (hs : starEach (e :: es) X.env = (false, eval e X.env) :: starEach es X.env := by rfl) : DA X (e :: es) (tCons te t) (wCons we w) :=
  ⟨pa_cons h.pe hr.pa hs, fun r hw k => h.sem r hw fun d v F1 H1 q e o => hr.sem (r.ext e) q fun ds vs F2 H2 q2 e2 o2 => k _ _ F2 H2 q2 (e.trans e2) (.cons (o.mono e2.sF) o2)⟩
theorem db_nil : DB X [] tNil wNil := ⟨pa_nil, fun r hw k => k [] [] _ _ hw (.refl r.base) .nil⟩
theorem db_cons (h : DE X e te we) (hr : DB X es t w) (hs : starEach (e :: es) X.env = (false, eval e X.env) :: starEach es X.env := by rfl) : DB X (e :: es) (tCons te t) (wCons we w) :=
  ⟨pa_cons h.pe hr.pa hs, fun r hw k => h.sem r hw fun d v F1 H1 q e o => hr.sem (r.ext e) q fun ds vs F2 H2 q2 e2 o2 => k _ _ F2 H2 q2 (e.trans e2) (.cons (o.mono e2.sF) o2)⟩
/-- displays -/
def wTup (w : WA) : WE := fun η Q => w η fun ds => ds.length ≤ sizeLine ∧ Q (.tuple ds)
def wLst (w : WA) : WE := fun η Q => w η fun ds => ds.length ≤ sizeLine ∧ Q (.list ds)
theorem de_tup {x1} (h : DB X es t w) : DE X (.Tuple es x1 pos) (tTupN t) (wTup w) :=
  ⟨pe_tupN h.pa, fun r hw k => h.sem r hw fun ds vs F1 H1 q e o => ⟨by rw [o.length]; exact q.1, (k.ext e).tup (r.ext e).base q.2 o⟩⟩
theorem dl_lst (h : DB X es t w) : DL X (.List es pos) (tLst t) (wLst w) :=
  ⟨pe_lst h.pa, fun r hw k => h.sem r hw fun ds vs F1 H1 q e o => ⟨by rw [o.length]; exact q.1, (k.ext e).new (r.ext e).base q.2 o⟩⟩
end
end W2

set_option Elab.async false
set_option linter.all false
set_option maxRecDepth 100000
/-! W2D: targets, what is walked, comprehensions. -/
namespace W2
open PySem PySem.Spec PyProof.Rows L2

/-! ### slots set, forgotten -/
def wipeE (η : En) : List Nat → En
  | [] => η
  | v :: vs => (wipeE η vs).set v .un
section
variable {K : PySem.W.Frag} {sx : Sx} {H0 F0 F H F1 H1 : Hp} {σ : L2.St} {η : En}
theorem Rep.setU (r : Rep K sx H0 F0 F σ H η) (i : Nat) (x : Option V) : Rep K sx H0 F0 F (σ.set i x) H (η.set i .un) where
  base := r.base
  s0 := r.s0
  f0 := r.f0
  fr := r.fr
  len := by rw [List.length_set, List.length_set]; exact r.len
  sl := fun j s v h1 h2 => by
    by_cases e : i = j
    · subst e
      have hi : i < η.length := by have := (List.getElem?_eq_some_iff.mp h1).1; simpa using this
      rw [List.getElem?_set_self hi] at h1
      cases h1
      trivial
    · rw [List.getElem?_set_ne e] at h1 h2
      exact r.sl j s v h1 h2
  sep := fun j k d e a h1 h2 h3 h4 => by
    by_cases e1 : i = j
    · subst e1
      have hi : i < η.length := by have := (List.getElem?_eq_some_iff.mp h1).1; simpa using this
      rw [List.getElem?_set_self hi] at h1; cases h1
    by_cases e2 : i = k
    · subst e2
      have hi : i < η.length := by have := (List.getElem?_eq_some_iff.mp h2).1; simpa using this
      rw [List.getElem?_set_self hi] at h2; cases h2
    rw [List.getElem?_set_ne e1] at h1 h3
    rw [List.getElem?_set_ne e2] at h2 h4
    exact r.sep j k d e a h1 h2 h3 h4
theorem Rep.setFz (r : Rep K sx H0 F0 F σ H η) (i : Nat) {v : V} {d : D} (h : Dt K F v d) : Rep K sx H0 F0 F (σ.set i (some v)) H (η.set i (.fz d)) where
  base := r.base
  s0 := r.s0
  f0 := r.f0
  fr := r.fr
  len := by rw [List.length_set, List.length_set]; exact r.len
  sl := fun j s x h1 h2 => by
    by_cases e : i = j
    · subst e
      have hi : i < η.length := by have := (List.getElem?_eq_some_iff.mp h1).1; simpa using this
      have hi' : i < σ.length := by rw [← r.len]; exact hi
      rw [List.getElem?_set_self hi] at h1
      rw [List.getElem?_set_self hi'] at h2
      cases h1; cases h2
      exact ⟨v, rfl, h⟩
    · rw [List.getElem?_set_ne e] at h1 h2
      exact r.sl j s x h1 h2
  sep := fun j k d e a h1 h2 h3 h4 => by
    by_cases e1 : i = j
    · subst e1
      have hi : i < η.length := by have := (List.getElem?_eq_some_iff.mp h1).1; simpa using this
      rw [List.getElem?_set_self hi] at h1; cases h1
    by_cases e2 : i = k
    · subst e2
      have hi : i < η.length := by have := (List.getElem?_eq_some_iff.mp h2).1; simpa using this
      rw [List.getElem?_set_self hi] at h2; cases h2
    rw [List.getElem?_set_ne e1] at h1 h3
    rw [List.getElem?_set_ne e2] at h2 h4
    exact r.sep j k d e a h1 h2 h3 h4
/-- a new object at a slot; r: as it stood ahead of the object -/
theorem Rep.setOw (r : Rep K sx H0 F0 F σ H η) (e : Ext2 sx F H F1 H1) (i : Nat) {a : Addr} {d : D} (ho : OwnAt K F1 H1 a d) (hf : F1 a = none) (hn : H a = none) : Rep K sx H0 F0 F1 (σ.set i (some (.ref a))) H1 (η.set i (.ow d)) :=
  let r1 := r.ext e
  have nx : ¬ inSx sx a := fun z => by obtain ⟨o, q⟩ := r.base.ok.there z; rw [hn] at q; cases q
  have h0 : H0 a = none := by
    cases q : H0 a with
    | none => rfl
    | some o => rw [r.s0 a o q nx] at hn; cases hn
  { base := r1.base, s0 := r1.s0, f0 := r1.f0, fr := r1.fr, len := by rw [List.length_set, List.length_set]; exact r.len,
    sl := fun j s x h1 h2 => by
      by_cases e : i = j
      · subst e
        have hi : i < η.length := by have := (List.getElem?_eq_some_iff.mp h1).1; simpa using this
        have hi' : i < σ.length := by rw [← r.len]; exact hi
        rw [List.getElem?_set_self hi] at h1
        rw [List.getElem?_set_self hi'] at h2
        cases h1; cases h2
        exact ⟨a, rfl, ho, hf, h0, nx⟩
      · rw [List.getElem?_set_ne e] at h1 h2
        exact r1.sl j s x h1 h2,
    sep := fun j k d' e' b h1 h2 h3 h4 => by
      have old : ∀ (m : Nat) (d : D), η[m]? = some (.ow d) → σ[m]? = some (some (.ref b)) → ∃ o, H b = some o := fun m d z1 z2 => by
        obtain ⟨a', e1, ho', _⟩ := r.sl m _ _ z1 z2
        cases e1
        exact ho'.there
      have self : ∀ (m : Nat), i = m → (η.set i (.ow d))[m]? = some (.ow d) → (σ.set i (some (V.ref a)))[m]? = some (some (.ref b)) → b = a := fun m e z1 z2 => by
        subst e
        have hi : i < η.length := by have := (List.getElem?_eq_some_iff.mp z1).1; simpa using this
        have hi' : i < σ.length := by rw [← r.len]; exact hi
        rw [List.getElem?_set_self hi'] at z2
        cases z2; rfl
      by_cases e1 : i = j
      · by_cases e2 : i = k
        · rw [← e1, e2]
        · exfalso
          subst e1
          have hi : i < η.length := by have := (List.getElem?_eq_some_iff.mp h1).1; simpa using this
          have hi' : i < σ.length := by rw [← r.len]; exact hi
          rw [List.getElem?_set_self hi'] at h3
          cases h3
          rw [List.getElem?_set_ne e2] at h2 h4
          obtain ⟨o, q⟩ := old k e' h2 h4
          rw [hn] at q; cases q
      · by_cases e2 : i = k
        · exfalso
          subst e2
          have hi : i < η.length := by have := (List.getElem?_eq_some_iff.mp h2).1; simpa using this
          have hi' : i < σ.length := by rw [← r.len]; exact hi
          rw [List.getElem?_set_self hi'] at h4
          cases h4
          rw [List.getElem?_set_ne e1] at h1 h3
          obtain ⟨o, q⟩ := old j d' h1 h3
          rw [hn] at q; cases q
        · rw [List.getElem?_set_ne e1] at h1 h3
          rw [List.getElem?_set_ne e2] at h2 h4
          exact r.sep j k d' e' b h1 h2 h3 h4 }
theorem Rep.wipe (r : Rep K sx H0 F0 F σ H η) : ∀ vs : List Nat, Rep K sx H0 F0 F (L2.wipe σ vs) H (wipeE η vs)
  | [] => r
  | v :: vs => (r.wipe vs).setU v none
end
theorem wipe_set {σ : L2.St} {i : Nat} {x : Option V} : ∀ {vs : List Nat}, i ∈ vs → L2.wipe (σ.set i x) vs = L2.wipe σ vs
  | [], h => by cases h
  | v :: vs, h => by
    show (L2.wipe (σ.set i x) vs).set v none = (L2.wipe σ vs).set v none
    by_cases hi : i ∈ vs
    · rw [wipe_set hi]
    · have e : i = v := by rcases List.mem_cons.mp h with h | h; exact h; exact absurd h hi
      subst e
      have : ∀ (ws : List Nat), i ∉ ws → L2.wipe (σ.set i x) ws = (L2.wipe σ ws).set i x := by
        intro ws
        induction ws with
        | nil => intro _; rfl
        | cons u us ih =>
          intro hn
          have h1 : i ≠ u := fun z => hn (by rw [z]; exact List.mem_cons_self)
          have h2 : i ∉ us := fun z => hn (List.mem_cons_of_mem _ z)
          show (L2.wipe (σ.set i x) us).set u none = ((L2.wipe σ us).set u none).set i x
          rw [ih h2, List.set_comm _ _ h1]
      rw [this vs hi, List.set_set]

/-! ### targets -/
abbrev WG := D → En → (En → Prop) → Prop
abbrev WGs := List D → En → (En → Prop) → Prop
/-- L: the slots that the target stores -/
def SemG (K : PySem.W.Frag) (g : TG) (w : WG) (L : List Nat) : Prop := ∀ {sx : Sx} {H0 F0 F : Hp} {σ : L2.St} {H : Hp} {η : En} {v : V} {d : D} {Q : En → Prop} {R : L2.St → Hp → Prop}, Rep K sx H0 F0 F σ H η → Dt K F v d → w d η Q →
  (∀ σ' η', Q η' → Rep K sx H0 F0 F σ' H η' → (∀ vs, (∀ i ∈ L, i ∈ vs) → L2.wipe σ' vs = L2.wipe σ vs) → R σ' H) → g v σ H R
def SemGs (K : PySem.W.Frag) (g : TGs) (w : WGs) (L : List Nat) : Prop := ∀ {sx : Sx} {H0 F0 F : Hp} {σ : L2.St} {H : Hp} {η : En} {v : List V} {d : List D} {Q : En → Prop} {R : L2.St → Hp → Prop}, Rep K sx H0 F0 F σ H η → DtL K F v d → w d η Q →
  (∀ σ' η', Q η' → Rep K sx H0 F0 F σ' H η' → (∀ vs, (∀ i ∈ L, i ∈ vs) → L2.wipe σ' vs = L2.wipe σ vs) → R σ' H) → g v σ H R
structure DG (X : Cx) (tg : Expr) (g : TG) (w : WG) (L : List Nat) : Prop where
  pg : PG X tg g
  sem : SemG X.K g w L
structure DGs (X : Cx) (tg : List Expr) (g : TGs) (w : WGs) (L : List Nat) : Prop where
  pg : PGs X tg g
  sem : SemGs X.K g w L
def wGn (i : Nat) : WG := fun d η Q => Q (η.set i (.fz d))
def wGnil : WGs := fun ds η Q => match ds with
  | [] => Q η
  | _ => False
def wGcons (g : WG) (gs : WGs) : WGs := fun ds η Q => match ds with
  | [] => False
  | d :: r => g d η fun η1 => gs r η1 Q
def wGt (n : Nat) (gs : WGs) : WG := fun d η Q => match d with
  | .tuple ds => ds.length = n ∧ gs ds η Q
  | .list ds => ds.length = n ∧ gs ds η Q
  | _ => False
theorem PG.or {X : Cx} {tg : Expr} {g g' : TG} (h : PG X tg g) (h' : PG X tg g') : PG X tg (fun v σ H Q => g v σ H Q ∨ g' v σ H Q) := ⟨fun pins s σ H v u Q I r hw => by
  rcases hw with hw | hw
  · exact h.run pins s σ H v u Q I r hw
  · exact h'.run pins s σ H v u Q I r hw⟩
section
variable {X : Cx}
theorem sem_gname {K : PySem.W.Frag} {i : Nat} : SemG K (gName i) (wGn i) [i] := fun r h hw k => k _ _ hw (r.setFz i h) fun vs hv => wipe_set (hv i (by simp))
theorem dg_name (i : Nat) {x : Str} {pos : Pos} (hN : X.N.Nodup) (hi : X.N[i]? = some x := by rfl) (hx : Loc X.env.scope x := by first | exact Or.inl rfl | exact Or.inr rfl) (hf : X.fn x = true ∨ X.env.scope.names.lookup x = some .local := by first | exact .inl rfl | exact .inr rfl) : DG X (.Name x pos) (gName i) (wGn i) [i] :=
  ⟨pg_name hN hi hx hf, sem_gname⟩
theorem dgs_nil : DGs X [] gNil wGnil [] := ⟨pgs_nil, fun {sx H0 F0 F σ H η v d Q R} r h hw k => by
  cases h with
  | nil => exact ⟨rfl, k _ _ hw r fun vs _ => rfl⟩
  | cons _ _ => exact hw.elim⟩
theorem dgs_cons {e : Expr} {es : List Expr} {t : TG} {u : TGs} {w : WG} {ws : WGs} {L Ls : List Nat} (h1 : DG X e t w L) (h2 : DGs X es u ws Ls)
    (hs : (assignEach (e :: es) X.env).map (·.2) = assign e X.env :: (assignEach es X.env).map (·.2) := by rfl) : DGs X (e :: es) (gCons t u) (wGcons w ws) (L ++ Ls) :=
  ⟨pgs_cons h1.pg h2.pg hs, fun {sx H0 F0 F σ H η v d Q R} r h hw k => by
    cases h with
    | nil => exact hw.elim
    | cons ha ht => exact ⟨_, _, rfl, h1.sem r ha hw fun σ1 η1 q1 r1 w1 => h2.sem r1 ht q1 fun σ2 η2 q2 r2 w2 => k _ _ q2 r2 fun vs hv => (w2 vs fun i hi => hv i (List.mem_append_right _ hi)).trans (w1 vs fun i hi => hv i (List.mem_append_left _ hi))⟩⟩
theorem dg_tup {es : List Expr} {k : Nat} {t : TGs} {n : Nat} {pos : Pos} {ws : WGs} {L : List Nat} (hc : X.calm = true) (h : DGs X es t ws L)
    (hn : (assignEach es X.env).length = n := by rfl) (hst : (assignEach es X.env).findIdx? (·.1) = none := by rfl) : DG X (.Tuple es k pos) (fun v σ H Q => gTup X.K n t v σ H Q ∨ gUnl X.K n t v σ H Q) (wGt n ws) L :=
  ⟨PG.or (pg_tup hc h.pg hn hst) (pg_unl hc h.pg hn hst), fun {sx H0 F0 F σ H η v d Q R} r hd hw k => by
    cases d <;> first | exact hw.elim | skip
    · cases hd with
      | lst h1 h2 => exact .inr ⟨_, _, rfl, SqL.of (r.base.le _ _ h1), by rw [h2.length]; exact hw.1, h.sem r h2 hw.2 k⟩
    · cases hd with
      | tup h1 h2 => exact .inl ⟨_, _, rfl, (h1.mono r.base.le).sq, by rw [h2.length]; exact hw.1, h.sem r h2 hw.2 k⟩⟩
end

/-! ### what is walked -/
abbrev WI := En → (List D → Prop) → Prop
/-- the items are ds, whatever grows meanwhile -/
structure ItOk (K : PySem.W.Frag) (sx : Sx) (F : Hp) (J : It) (ds : List D) : Prop where
  go : ∀ {F' H' : Hp} {i : Nat}, Same F F' → Base sx F' H' → i < ds.length → J.go i H'
  yld : ∀ {F' H' H'' : Hp} {i : Nat} {x : V} {d : D}, Same F F' → Base sx F' H' → ds[i]? = some d → J.yld i H' x H'' → ∃ F'', Ext2 sx F' H' F'' H'' ∧ Dt K F'' x d
  stop : ∀ {F' H' : Hp}, Same F F' → Base sx F' H' → J.stop ds.length H'
theorem ItOk.mono {K : PySem.W.Frag} {sx : Sx} {F F1 : Hp} {J : It} {ds : List D} (h : ItOk K sx F J ds) (e : Same F F1) : ItOk K sx F1 J ds := ⟨fun s b l => h.go (e.trans s) b l, fun s b l y => h.yld (e.trans s) b l y, fun s b => h.stop (e.trans s) b⟩
def ContI (K : PySem.W.Frag) (sx : Sx) (F H : Hp) (Q : List D → Prop) (R : It → Hp → Prop) : Prop := ∀ ds J F' H', Q ds → Ext2 sx F H F' H' → ItOk K sx F' J ds → R J H'
def SemI (K : PySem.W.Frag) (t : TI) (w : WI) : Prop := ∀ {sx : Sx} {H0 F0 F : Hp} {σ : L2.St} {H : Hp} {η : En} {Q : List D → Prop} {R : It → Hp → Prop}, Rep K sx H0 F0 F σ H η → w η Q → ContI K sx F H Q R → t σ H R
structure DI (X : Cx) (tg iter : Expr) (t : TI) (w : WI) : Prop where
  pi : PI X tg iter t
  sem : SemI X.K t w
theorem PI.or {X : Cx} {tg e : Expr} {t t' : TI} (h : PI X tg e t) (h' : PI X tg e t') : PI X tg e (fun σ H R => t σ H R ∨ t' σ H R) := ⟨fun pins s σ H R I hw => by
  rcases hw with hw | hw
  · exact h.run pins s σ H R I hw
  · exact h'.run pins s σ H R I hw⟩
theorem it_list {K : PySem.W.Frag} {sx : Sx} {F : Hp} {a : Addr} {xs : List V} {ds : List D} (h : F a = some (.lst xs)) (hd : DtL K F xs ds) : ItOk K sx F (Itl K a) ds where
  go := fun {F' H' i} s b hi => ⟨xs, xs[i]'(by rw [hd.length]; exact hi), SqL.of (b.le _ _ (s _ _ h)), List.getElem?_eq_getElem _⟩
  yld := fun {F' H' H'' i x d} s b hi y => by
    obtain ⟨rfl, f⟩ := y
    obtain ⟨v, hv, dv⟩ := hd.get i hi
    have e := f xs (SqL.of (b.le _ _ (s _ _ h)))
    rw [hv] at e
    cases e
    exact ⟨F', .refl b, dv.mono s⟩
  stop := fun {F' H'} s b => ⟨xs, SqL.of (b.le _ _ (s _ _ h)), by rw [hd.length]; exact Nat.le_refl _⟩
theorem it_tup {K : PySem.W.Frag} {sx : Sx} {F : Hp} {a : Addr} {xs : List V} {ds : List D} (h : TupAt F a xs) (hd : DtL K F xs ds) : ItOk K sx F (Itt K a) ds where
  go := fun {F' H' i} s b hi => ⟨xs, xs[i]'(by rw [hd.length]; exact hi), ((h.mono s).mono b.le).sq, List.getElem?_eq_getElem _⟩
  yld := fun {F' H' H'' i x d} s b hi y => by
    obtain ⟨rfl, f⟩ := y
    obtain ⟨v, hv, dv⟩ := hd.get i hi
    have e := f xs ((h.mono s).mono b.le).sq
    rw [hv] at e
    cases e
    exact ⟨F', .refl b, dv.mono s⟩
  stop := fun {F' H'} s b => ⟨xs, ((h.mono s).mono b.le).sq, by rw [hd.length]; exact Nat.le_refl _⟩
/-- the keys, frozen: their tuples are so from now on -/
theorem DtK.key {K : PySem.W.Frag} {F : Hp} : ∀ {kvs : List (Key × V)} {es : List (D × D)} (i : Nat) {k : Key} {v : V}, DtK K F kvs es → kvs[i]? = some (k, v) → ∃ d, es[i]? = some (kD k, d) ∧ Dt K F v d
  | _, _, _, _, _, .nil, e => by simp at e
  | _, _, 0, _, _, .cons h _, e => by
    simp at e
    obtain ⟨rfl, rfl⟩ := e
    exact ⟨_, rfl, h⟩
  | _, _, i + 1, _, _, .cons _ t, e => by
    obtain ⟨d, h1, h2⟩ := t.key i (by simpa using e)
    exact ⟨d, by simpa using h1, h2⟩
theorem DtT.key {K : PySem.W.Frag} {F : Hp} : ∀ {kvs : List (List Key × V)} {es : List (D × D)} (i : Nat) {k : List Key} {v : V}, DtT K F kvs es → kvs[i]? = some (k, v) → ∃ d, es[i]? = some (.tuple (k.map kD), d) ∧ Dt K F v d
  | _, _, _, _, _, .nil, e => by simp at e
  | _, _, 0, _, _, .cons h _, e => by
    simp at e
    obtain ⟨rfl, rfl⟩ := e
    exact ⟨_, rfl, h⟩
  | _, _, i + 1, _, _, .cons _ t, e => by
    obtain ⟨d, h1, h2⟩ := t.key i (by simpa using e)
    exact ⟨d, by simpa using h1, h2⟩
theorem DtK.length {K : PySem.W.Frag} {F : Hp} : ∀ {kvs : List (Key × V)} {es : List (D × D)}, DtK K F kvs es → kvs.length = es.length
  | _, _, .nil => rfl
  | _, _, .cons _ t => congrArg (· + 1) t.length
theorem DtT.length {K : PySem.W.Frag} {F : Hp} : ∀ {kvs : List (List Key × V)} {es : List (D × D)}, DtT K F kvs es → kvs.length = es.length
  | _, _, .nil => rfl
  | _, _, .cons _ t => congrArg (· + 1) t.length
/-- a locked dict with tuple keys -/
def FzT (H : Hp) (a : Addr) (o : Obj) (kvs : List (List Key × V)) : Prop := (∃ o', H a = some (.frz o' (tdO a o))) ∧ TD H a o kvs
theorem FzT.rd {H : Hp} {a : Addr} {o : Obj} {kvs : List (List Key × V)} (h : FzT H a o kvs) : RdT H a o := .inr h.1
theorem FzT.at {X : Cx} {pins : List (Addr × Obj)} {σ : L2.St} {H : Hp} {s : Shared} {d : Addr} {o : Obj} {kvs : List (List Key × V)} (I : Inv X pins σ H s) (h : FzT H d o kvs) : (d == sysModules) = false ∧ s.heap.get? d = some o ∧ o.ExactDict ∧ ∃ (es : Array DictEntry) (ep : Nat), o.data = .dict es ep ∧ es.size = kvs.length ∧
      ∀ (i : Nat) (k : List Key) (v : V), kvs[i]? = some (k, v) → ∃ (en : DictEntry) (q : Addr), es[i]? = some en ∧ en.key = .ref q ∧ TupAt H q (k.map kV) ∧ RelV v en.val := by
  have hg := h.rd.get I.hok
  obtain ⟨_, n, xs, t1, t2⟩ := h
  obtain ⟨es, ep, d1, _, d2⟩ := t1.ents
  have he := d2 X.prog X.w
  refine ⟨n, hg, t1.exact, es, ep, d1, ?_, fun i k v e => ?_⟩
  · rw [size_of_entries he, Paired.length t2]
  · obtain ⟨b, hb, e1, e2, e3⟩ := paired_get t2 e
    have q := entry_at he i
    rw [hb] at q
    exact ⟨_, b.2.1, q, rfl, e2, e3⟩
/-- the address of a key, by the dict's very object -/
def KeyIx (o : Obj) (i : Nat) (q : Addr) : Prop := ∃ es ep en, o.data = .dict es ep ∧ es[i]? = some en ∧ en.key = .ref q
theorem KeyIx.eq {F : Hp} {a : Addr} {o : Obj} {kvs : List (List Key × V)} {i : Nat} {q : Addr} {k : List Key} {v : V} (x : KeyIx o i q) (t : TD F a o kvs) (e : kvs[i]? = some (k, v)) : TupAt F q (k.map kV) := by
  obtain ⟨es, ep, en, h1, h2, h3⟩ := x
  obtain ⟨n, xs, t1, t2⟩ := t
  obtain ⟨es', ep', d1, d2, _⟩ := t1.ents
  obtain ⟨rfl, rfl⟩ := dict_ep h1 d1
  obtain ⟨b, hb, e1, e2, e3⟩ := paired_get t2 e
  have : q = b.2.1 := by
    have z := congrArg (fun l => l[i]?) d2
    simp only [List.getElem?_map, Array.getElem?_toList, h2, hb, Option.map_some, h3] at z
    cases z
    rfl
  rw [this]
  exact e2
def ItkN (d : Addr) (o : Obj) (kvs : List (List Key × V)) : It :=
  ⟨fun i H => FzT H d o kvs ∧ i < kvs.length, fun i H x H' => H' = H ∧ ∃ (k : List Key) (v : V) (q : Addr), kvs[i]? = some (k, v) ∧ x = .ref q ∧ KeyIx o i q, fun i H => FzT H d o kvs ∧ kvs.length ≤ i⟩
theorem turn_keysN {P : Program} {w : World} {K : PySem.W.Frag} {tg : Expr} {d : Addr} {o : Obj} {es : Array DictEntry} {ep : Nat} {kvs : List (List Key × V)} (it : Addr) (hod : o.data = .dict es ep) : Turn P w K tg (ItkN d o kvs) [it] it (fun i h => h.IsKeyIter it d i kvs.length ep) where
  mem := by simp
  obj := fun i h ⟨oi, e, c, dd⟩ b hb => by
    rw [List.mem_singleton] at hb; subst hb
    exact ⟨oi, e, fun v z => by rw [dd] at z; cases z⟩
  keep := fun i h h' st k => st.at fun oi e => k it (by simp) oi e
  item := by
    intro X hP hw hK hc i pins s σ H E I hf st ⟨hd, hi⟩
    subst hP hw hK; obtain ⟨f0, f1, f2, f3, f4, f5⟩ := hf it (by simp)
    obtain ⟨hs, hgd, hx, es', ep', hdt, hsz, ent⟩ := hd.at I; obtain ⟨rfl, rfl⟩ := dict_ep hod hdt
    obtain ⟨en, q, hen, hkey, hq, _⟩ := ent i _ _ (List.getElem?_eq_getElem hi)
    refine next_key_item st hgd hdt hsz hen fun g st' sb => ?_
    have I1 : Inv X pins σ H { s with heap := g } := I.turned (t' := s.toks) (fun b ob hb e => (sb.2 b hb).trans e) f0 f1 f3 f4 f5
    obtain ⟨oi, e, c, dd⟩ := id st'
    exact ⟨en.key, rfl, go_of (s := { s with heap := g }) e c dd (by decide) ⟨.ref q, H, I1, hkey, ⟨rfl, _, _, q, List.getElem?_eq_getElem hi, rfl, _, _, en, hdt, hen, hkey⟩, st', fun b hb => (hf b hb).1⟩⟩
  done := by
    intro X hP hw hK hc i pins s σ H E I hf st ⟨hd, hi⟩
    subst hP hw hK; obtain ⟨f0, f1, f2, f3, f4, f5⟩ := hf it (by simp)
    obtain ⟨hs, hgd, hx, es', ep', hdt, hsz, ent⟩ := hd.at I; obtain ⟨rfl, rfl⟩ := dict_ep hod hdt
    exact next_key_end (I.ok.hd hc) st hgd hdt hsz hi fun g eb => ⟨rfl, I.turned (t' := s.toks) (fun b ob hb e => eb b ob hb e) f0 f1 f3 f4 f5⟩
  self := fun A i s Q E st h => by
    refine wpAny_pyIter_slot st.typeIs F.slot_dict_keyiterator_iter (wpAny_call_entry F.slot_dict_keyiterator_iter st.typeIs F.entry_dict_keyiterator_iter ?_ (F.args_dict_keyiterator_iter_1 _)); show wpAny _ _ (ret (.ref it)) _ _ s
    exact wpAny_pure ⟨_, rfl, "dict_keyiterator", _, st.typeIs, F.slot_dict_keyiterator_next.lookup, h⟩
theorem it_keysK {K : PySem.W.Frag} {sx : Sx} {F : Hp} {a : Addr} {o : Obj} {kvs : List (Key × V)} {es : List (D × D)} (h : F a = some (.frz o (.dK kvs))) (hd : DtK K F kvs es) : ItOk K sx F (Itk a o kvs) (es.map (·.1)) where
  go := fun {F' H' i} s b hi => ⟨b.le _ _ (s _ _ h), by rw [hd.length]; simpa using hi⟩
  yld := fun {F' H' H'' i x d} s b hi y => by
    obtain ⟨rfl, k, v, hk, rfl⟩ := y
    obtain ⟨d', h1, _⟩ := hd.key i hk
    rw [List.getElem?_map, h1] at hi
    cases hi
    exact ⟨F', .refl b, .key k⟩
  stop := fun {F' H'} s b => ⟨b.le _ _ (s _ _ h), by rw [hd.length]; simp⟩
theorem it_keysT {K : PySem.W.Frag} {sx : Sx} {F : Hp} {a : Addr} {o o' : Obj} {kvs : List (List Key × V)} {es : List (D × D)} (h : F a = some (.frz o' (tdO a o))) (ht : TD F a o kvs) (hd : DtT K F kvs es) : ItOk K sx F (ItkN a o kvs) (es.map (·.1)) where
  go := fun {F' H' i} s b hi => ⟨⟨⟨o', b.le _ _ (s _ _ h)⟩, (ht.mono s).mono b.le⟩, by rw [hd.length]; simpa using hi⟩
  yld := fun {F' H' H'' i x d} s b hi y => by
    obtain ⟨rfl, k, v, q, hk, rfl, hq⟩ := y
    obtain ⟨d', h1, _⟩ := hd.key i hk
    rw [List.getElem?_map, h1] at hi
    cases hi
    exact ⟨F', .refl b, .tup ((hq.eq ht hk).mono s) (.keys k)⟩
  stop := fun {F' H'} s b => ⟨⟨⟨o', b.le _ _ (s _ _ h)⟩, (ht.mono s).mono b.le⟩, by rw [hd.length]; simp⟩
/-- a list, a tuple, a dict's keys -/
def wItems (we : WE) : WI := fun η Q => we η fun d => match d with
  | .list ds => Q ds
  | .tuple ds => Q ds
  | .dict es => Q (es.map (·.1))
  | _ => False
def rangeD (lo : Int) (n : Nat) : List D := (List.range n).map fun k => .int (lo + (k : Nat))
def wRng1 (wa : WE) : WI := fun η Q => wa η fun d => match d with
  | .int j => (-(2 ^ 62) ≤ j ∧ j < 2 ^ 62) ∧ Q (rangeD 0 j.toNat)
  | _ => False
def wRng2 (wa wb : WE) : WI := fun η Q => wa η fun d => wb η fun e => match d, e with
  | .int i, .int j => (-(2 ^ 62) ≤ i ∧ i < 2 ^ 62 ∧ -(2 ^ 62) ≤ j ∧ j < 2 ^ 62) ∧ Q (rangeD i (j - i).toNat)
  | _, _ => False
theorem it_rng {K : PySem.W.Frag} {sx : Sx} {F : Hp} {lo : Int} {n : Nat} : ItOk K sx F (Itr lo n) (rangeD lo n) where
  go := fun {F' H' i} _ _ hi => by
    show i < n
    simpa [rangeD] using hi
  yld := fun {F' H' H'' i x d} s b hi y => by
    obtain ⟨rfl, rfl⟩ := y
    rw [rangeD, List.getElem?_map] at hi
    cases q : (List.range n)[i]? with
    | none => rw [q] at hi; cases hi
    | some j =>
      rw [q] at hi
      have e : i = j := by
        have := List.getElem?_eq_some_iff.mp q
        obtain ⟨h1, h2⟩ := this
        simpa using h2
      subst e
      cases hi
      exact ⟨F', .refl b, .int _⟩
  stop := fun {F' H'} _ _ => by
    show n ≤ _
    simp [rangeD]
section
variable {X : Cx} {tg e : Expr} {te : TE} {we : WE} {ta tb : TE} {wa wb : WE} {a b : Expr} {p pos : Pos}
/-- a list, a tuple, a dict's keys -/
def iAny (K : PySem.W.Frag) (te : TE) : TI := fun σ H R => te σ H fun x H1 => ∃ a, x = .ref a ∧
  ((∃ xs, SqL K H1 a xs ∧ R (Itl K a) H1) ∨ (∃ xs, SqT K H1 a xs ∧ R (Itt K a) H1) ∨ (∃ o kvs, H1 a = some (.frz o (.dK kvs)) ∧ R (Itk a o kvs) H1) ∨ ∃ o kvs, FzT H1 a o kvs ∧ R (ItkN a o kvs) H1)
theorem pi_any (he : PE X e te) : PI X tg e (iAny X.K te) := by
  refine ⟨fun pins s σ H R I h => ?_⟩
  refine thn (he.run pins s σ H _ I h) fun u s1 ⟨x, H1, I1, rx, a, ex, q⟩ => ?_
  subst ex
  obtain rfl : u = Value.ref a := rx
  have fin : ∀ {tn : Nat → Heap → Prop} (J : It) (o : Obj), Turn X.prog X.w X.K tg J [s1.heap.objs.size] s1.heap.objs.size tn → tn 0 (s1.heap.push o) → R J H1 → PIE X pins σ tg R (.ref s1.heap.objs.size) { s1 with heap := s1.heap.push o, toks := s1.toks } :=
    fun J o T st q => pi_one I1 o T st q
  rcases q with ⟨xs, hq, q⟩ | ⟨xs, hq, q⟩ | ⟨o, kvs, hd, q⟩ | ⟨o, kvs, hd, q⟩
  · obtain ⟨its, rv, p, hz⟩ := I1.list hq
    exact wpAny_pyIter_list p.isList (fin _ _ (turn_list a _) ⟨_, Heap.get?_push_size _ rfl, rfl, rfl⟩ q)
  · obtain ⟨its, rv, p, hz⟩ := I1.tuple hq
    exact wpAny_pyIter_tuple (show s1.heap.IsTuple a its.toArray from p) (fin _ _ (turn_tuple a _) ⟨_, Heap.get?_push_size _ rfl, rfl, rfl⟩ q)
  · obtain ⟨hs, hgd, hx, es, ep, vs, hdt, hsz, kv, hm⟩ := I1.frzK hd
    refine iter_keys hs hgd hx hdt (fin _ _ (turn_keys _ hdt) ⟨_, Heap.get?_push_size _ rfl, rfl, ?_⟩ q)
    rw [hsz] <;> rfl
  · obtain ⟨hs, hgd, hx, es, ep, hdt, hsz, ent⟩ := hd.at I1
    refine iter_keys hs hgd hx hdt (fin _ _ (turn_keysN _ hdt) ⟨_, Heap.get?_push_size _ rfl, rfl, ?_⟩ q)
    rw [hsz] <;> rfl
theorem di_items (he : DE X e te we) : DI X tg e (iAny X.K te) (wItems we) :=
  ⟨pi_any he.pe, fun {sx H0 F0 F σ H η Q R} r hw k => he.sem r hw fun d v F1 H1 q e hd => by
    have le := (r.ext e).base.le
    cases d <;> first | exact q.elim | skip
    · cases hd with
      | lst h1 h2 => exact ⟨_, rfl, .inl ⟨_, SqL.of (le _ _ h1), k _ _ F1 H1 q e (it_list h1 h2)⟩⟩
    · cases hd with
      | tup h1 h2 => exact ⟨_, rfl, .inr (.inl ⟨_, (h1.mono le).sq, k _ _ F1 H1 q e (it_tup h1 h2)⟩)⟩
    · cases hd with
      | dK h1 h2 => exact ⟨_, rfl, .inr (.inr (.inl ⟨_, _, le _ _ h1, k _ _ F1 H1 q e (it_keysK h1 h2)⟩))⟩
      | dT h1 h3 h2 => exact ⟨_, rfl, .inr (.inr (.inr ⟨_, _, ⟨⟨_, le _ _ h1⟩, h3.mono le⟩, k _ _ F1 H1 q e (it_keysT h1 h3 h2)⟩))⟩⟩
theorem di_range1 (hg : Gl X "range") (hm : X.mg "range" = none) (ha : DO X a ta wa) (hs : starEach [a] X.env = [(false, eval a X.env)] := by rfl) : DI X tg (.Call (.Name "range" p) [a] [] pos) (iRng1 (tCons ta tNil)) (wRng1 wa) :=
  ⟨pi_range1 hg hm (pa_cons ha.pe pa_nil hs) hs, fun {sx H0 F0 F σ H η Q R} r hw k => ha.sem r hw fun d v F1 H1 q e o => by
    cases d <;> first | exact q.elim | skip
    cases (o.nw (r.ext e)).int
    exact ⟨_, rfl, q.1.1, q.1.2, k _ _ F1 H1 q.2 e it_rng⟩⟩
theorem di_range2 (hg : Gl X "range") (hm : X.mg "range" = none) (ha : DO X a ta wa) (hb : DO X b tb wb) (hs : starEach [a, b] X.env = [(false, eval a X.env), (false, eval b X.env)] := by rfl) (hs' : starEach [b] X.env = [(false, eval b X.env)] := by rfl) : DI X tg (.Call (.Name "range" p) [a, b] [] pos) (iRng2 (tCons ta (tCons tb tNil))) (wRng2 wa wb) :=
  ⟨pi_range2 hg hm (pa_cons ha.pe (pa_cons hb.pe pa_nil hs') (hs.trans (by rw [hs']))) hs hs', fun {sx H0 F0 F σ H η Q R} r hw k => ha.sem r hw fun d v F1 H1 q1 e1 o1 => hb.sem (r.ext e1) q1 fun d2 v2 F2 H2 q e2 o2 => by
    cases d <;> cases d2 <;> first | exact q.elim | skip
    have r2 := (r.ext e1).ext e2
    cases ((o1.mono e2.sF).nw r2).int
    cases (o2.nw r2).int
    exact ⟨_, _, rfl, q.1, k _ _ F2 H2 q.2 (e1.trans e2) it_rng⟩⟩
end

/-! ### comprehensions -/
def lcGo (g : WG) (tt : WT) (we : WE) (η : En) : List D → List D → (D → Prop) → Prop
  | [], acc, Q => Q (.list acc)
  | d :: ds, acc, Q => g d η fun η1 => tt η1 fun b => if b = true then we η1 fun y => acc.length < sizeLine ∧ lcGo g tt we η ds (acc ++ [y]) Q else lcGo g tt we η ds acc Q
def wLc (wi : WI) (g : WG) (tt : WT) (we : WE) (vs : List Nat) : WE := fun η Q => wi η fun ds => lcGo g tt we (wipeE η vs) ds [] Q
theorem sem_lc {K : PySem.W.Frag} {wi : TI} {wI : WI} {g : TG} {wg : WG} {L : List Nat} {tt : TT} {wt : WT} {te : TE} {we : WE} {vs : List Nat} (hi : SemI K wi wI) (hg : SemG K g wg L) (ht : SemT K tt wt) (he : SemE K te we) (hL : ∀ i ∈ L, i ∈ vs) :
    SemL K (tLc wi g tt te vs) (wLc wI wg wt we vs) := fun {sx H0 F0 F σ H η Q R} r hw k => by
  refine hi r hw fun ds J F1 H1 q e1 hit => ?_
  intro D hD
  have r1 := r.ext e1
  have rw1 := r1.wipe vs
  refine ⟨fun i m H' => ∃ F' xs acc, i ≤ ds.length ∧ m = ds.length - i ∧ Ext2 sx F1 H1 F' H' ∧ F' D = none ∧ H' D = some (.lst xs) ∧ DtL K F' xs acc ∧ lcGo wg wt we (wipeE η vs) (ds.drop i) acc Q, ⟨ds.length, F1, [], [], Nat.zero_le _, rfl, .newF r1.base hD, ?_, upd_same, .nil, q⟩, ?_⟩
  · cases z : F1 D with
    | none => rfl
    | some o => rw [r1.base.le _ _ z] at hD; cases hD
  · rintro i m H' ⟨F', xs, acc, hi1, hm, e', hF, hH, hxs, hq⟩
    have rr := rw1.ext e'
    by_cases h : i < ds.length
    · rw [List.drop_eq_getElem_cons h] at hq
      refine .inr ⟨hit.go e'.sF rr.base h, fun H'' => ∃ F'' xs acc, Ext2 sx F1 H1 F'' H'' ∧ F'' D = none ∧ H'' D = some (.lst xs) ∧ DtL K F'' xs acc ∧ lcGo wg wt we (wipeE η vs) (ds.drop (i + 1)) acc Q, ?_, ?_⟩
      · rintro H'' ⟨F'', xs, acc, a1, a2, a3, a4, a5⟩
        exact ⟨ds.length - (i + 1), by omega, F'', xs, acc, h, rfl, a1, a2, a3, a4, a5⟩
      · intro x H'' hy
        obtain ⟨F2, e2, hd⟩ := hit.yld e'.sF rr.base (List.getElem?_eq_getElem h) hy
        have r2 := rr.ext e2
        have keep : ∀ {Fa Ha Fb Hb : Hp}, Ext2 sx Fa Ha Fb Hb → Fa D = none → Ha D = some (.lst xs) → Fb D = none ∧ Hb D = some (.lst xs) := fun {Fa Ha Fb Hb} e f h => by
          have nx : ¬ inSx sx D := fun z => by obtain ⟨o, q⟩ := r1.base.ok.there z; rw [hD] at q; cases q
          have hb := e.sH _ _ h nx
          refine ⟨?_, hb⟩
          cases z : Fb D with
          | none => rfl
          | some o =>
            rcases e.fr _ _ z with y | y | ⟨ys, rfl⟩
            · rw [f] at y; cases y
            · rw [h] at y; cases y
            · rw [e.le _ _ z] at hb; cases hb
        obtain ⟨k1, k2⟩ := keep e2 hF hH
        refine hg r2 hd hq fun σ2 η2 q2 r2' w2 => ⟨?_, ?_⟩
        · rw [w2 vs hL]
          have : ∀ (ws : List Nat), L2.wipe (L2.wipe σ ws) ws = L2.wipe σ ws := by
            have aux : ∀ (ws : List Nat) (τ : L2.St), (∀ i ∈ ws, i < τ.length → τ[i]? = some none) → L2.wipe τ ws = τ := by
              intro ws
              induction ws with
              | nil => intro τ _; rfl
              | cons u us ih =>
                intro τ hτ
                show (L2.wipe τ us).set u none = τ
                rw [ih τ fun i hi => hτ i (List.mem_cons_of_mem _ hi)]
                apply List.ext_getElem?
                intro j
                by_cases e : u = j
                · subst e
                  by_cases hu : u < τ.length
                  · rw [List.getElem?_set_self hu, hτ u List.mem_cons_self hu]
                  · rw [List.getElem?_eq_none (by simpa using hu), List.getElem?_eq_none (by simpa using hu)]
                · rw [List.getElem?_set_ne e]
            intro ws
            refine aux ws _ ?_
            induction ws with
            | nil => intro i hi; cases hi
            | cons u us ih =>
              intro i hi hl
              show ((L2.wipe σ us).set u none)[i]? = _
              by_cases e : u = i
              · subst e
                rw [List.getElem?_set_self (by simpa [L2.wipe, List.length_set] using hl)]
              · rw [List.getElem?_set_ne e]
                rcases List.mem_cons.mp hi with h | h
                · exact absurd h.symm e
                · exact ih i h (by simpa [L2.wipe, List.length_set] using hl)
          exact this vs
        · refine ht r2' q2 fun b F3 H3 q3 e3 => ?_
          obtain ⟨k3, k4⟩ := keep e3 k1 k2
          cases b with
          | false =>
            rw [if_neg Bool.false_ne_true] at q3 ⊢
            exact ⟨F3, xs, acc, (e'.trans e2).trans e3, k3, k4, hxs.mono (e2.sF.trans e3.sF), q3⟩
          | true =>
            rw [if_pos rfl] at q3 ⊢
            refine he (r2'.ext e3) q3 fun y v F4 H4 q4 e4 hv => ?_
            obtain ⟨k5, k6⟩ := keep e4 k3 k4
            have h4 := ((e'.trans e2).trans e3).trans e4
            refine ⟨xs, k6, by rw [hxs.length]; exact q4.1, F4, xs ++ [v], acc ++ [y], ?_, k5, upd_same, (hxs.mono (e2.sF.trans (e3.sF.trans e4.sF))).append (.one hv), q4.2⟩
            have nx : ¬ inSx sx D := fun z => by obtain ⟨o, q⟩ := r1.base.ok.there z; rw [hD] at q; cases q
            refine ⟨h4.sF, fun b o hb n => ?_, fun b o hb => ?_, h4.fr, ?_⟩
            · rw [upd_ne (ne_of_none hb hD)]; exact h4.sH _ _ hb n
            · rw [upd_ne (ne_of_none hb k5)]; exact h4.le _ _ hb
            · cases sx with
              | none => trivial
              | some p =>
                obtain ⟨a1, b1⟩ := p
                obtain ⟨n, cs, l, m, t, z1, z2, z⟩ := h4.ok
                refine ⟨n, cs, l, m, t, ?_, ?_, z⟩
                · rw [upd_ne (fun z => nx (.inl z.symm))]; exact z1
                · rw [upd_ne (fun z => nx (.inr z.symm))]; exact z2
    · have hl : i = ds.length := by omega
      subst hl
      rw [List.drop_length] at hq
      have e3 := e1.trans e'
      have hn : H D = none := e1.back hD
      exact .inl ⟨hit.stop e'.sF rr.base, k acc xs D F' H' hq e3 hH hxs hF hn⟩
/-- a clause's tests -/
structure DTT (X : Cx) (ifs : List Expr) (t : TT) (w : WT) : Prop where
  pts : PTs X ifs t
  sem : SemT X.K t w
def wYes : WT := fun _ Q => Q true
section
variable {X : Cx}
theorem dtt_nil : DTT X [] tYes wYes := ⟨pts_nil, fun r hw k => k true _ _ hw (.refl r.base)⟩
theorem dtt_one {c : Expr} {t : TT} {w : WT} (h : DTs X c t w) : DTT X [c] t w := ⟨pts_one h.pt, h.sem⟩
abbrev compX (X : Cx) (scope : Scope) (s : Shared) (H : Hp) (C : Addr) (cl : List (Str × Addr)) (fp : List Addr) : Cx := X.blk s H scope (compEnvC scope cl C X.env) fp
theorem dl_lc {elt tg iter : Expr} {ifs : List Expr} {scope : Scope} {own : List (Str × Nat)} {pos : Pos} {wi : TI} {wI : WI} {g : TG} {wg : WG} {L : List Nat} {tt : TT} {wt : WT} {te : TE} {we : WE} (hc : X.calm = true) (hN : X.N.Nodup) (hi : DI X tg iter wi wI) (ok : BlkOk X.N X.env.scope scope own)
    (hg : ∀ (s : Shared) (H : Hp) (C : Addr) (cl : List (Str × Addr)) (fp : List Addr), DG (compX X scope s H C cl fp) tg g wg L) (ht : ∀ (s : Shared) (H : Hp) (C : Addr) (cl : List (Str × Addr)) (fp : List Addr), DTT (compX X scope s H C cl fp) ifs tt wt)
    (he : ∀ (s : Shared) (H : Hp) (C : Addr) (cl : List (Str × Addr)) (fp : List Addr), DE (compX X scope s H C cl fp) elt te we) (hL : ∀ i ∈ L, i ∈ own.map (·.2)) (hs : ∀ x, foldedSetIterable iter X.env x = pure x := by intro _; rfl) :
    DL X (.ListComp elt [⟨tg, iter, ifs, 0⟩] scope pos) (tLc wi g tt te (own.map (·.2))) (wLc wI wg wt we (own.map (·.2))) :=
  ⟨pe_lc hc hN hi.pi ok (fun s H C cl fp => (hg s H C cl fp).pg) (fun s H C cl fp => (ht s H C cl fp).pts) (fun s H C cl fp => (he s H C cl fp).pe) hs,
    sem_lc hi.sem (hg {} (fun _ => none) 0 [] []).sem (ht {} (fun _ => none) 0 [] []).sem (he {} (fun _ => none) 0 [] []).sem hL⟩
end
end W2

set_option Elab.async false
set_option linter.all false
set_option maxRecDepth 100000
/-! W2E: readings over data: statements, what a def promises. -/
namespace W2
open PySem PySem.Spec PyProof.Rows L2

structure WEnds where
  nx : En → Prop
  rt : D → Prop
  bk : En → Prop := fun _ => False
  ct : En → Prop := fun _ => False
abbrev WS := WEnds → En → Prop
structure ContS (K : PySem.W.Frag) (sx : Sx) (H0 F0 F : Hp) (D : WEnds) (R : Ends) : Prop where
  nx : ∀ η' σ' F' H', D.nx η' → Same F F' → Rep K sx H0 F0 F' σ' H' η' → R.nx σ' H'
  bk : ∀ η' σ' F' H', D.bk η' → Same F F' → Rep K sx H0 F0 F' σ' H' η' → R.bk σ' H'
  ct : ∀ η' σ' F' H', D.ct η' → Same F F' → Rep K sx H0 F0 F' σ' H' η' → R.ct σ' H'
  rt : ∀ d v F' H', D.rt d → Ext2 sx F0 H0 F' H' → Dt K F' v d → R.rt v H'
def SemS (K : PySem.W.Frag) (t : TS) (w : WS) : Prop := ∀ {sx : Sx} {H0 F0 F : Hp} {σ : L2.St} {H : Hp} {η : En} {D : WEnds} {R : Ends}, Rep K sx H0 F0 F σ H η → w D η → ContS K sx H0 F0 F D R → t R σ H
structure DS (X : Cx) (st : Stmt) (t : TS) (w : WS) : Prop where
  ps : PS X st t
  sem : SemS X.K t w
structure DSs (X : Cx) (st : List Stmt) (t : TS) (w : WS) : Prop where
  pss : PSs X st t
  sem : SemS X.K t w
theorem ContS.mono {K : PySem.W.Frag} {sx : Sx} {H0 F0 F F1 : Hp} {D : WEnds} {R : Ends} (k : ContS K sx H0 F0 F D R) (e : Same F F1) : ContS K sx H0 F0 F1 D R :=
  ⟨fun η' σ' F' H' q s => k.nx η' σ' F' H' q (e.trans s), fun η' σ' F' H' q s => k.bk η' σ' F' H' q (e.trans s), fun η' σ' F' H' q s => k.ct η' σ' F' H' q (e.trans s), k.rt⟩
def wNext : WS := fun D η => D.nx η
def wSeq (a b : WS) : WS := fun D η => a { D with nx := fun η' => b D η' } η
section
variable {X : Cx} {st : Stmt} {rest : List Stmt} {t u : TS} {a b : WS} {e : Expr} {te : TE} {we : WE} {pos : Pos}
theorem dss_nil : DSs X [] tNext wNext := ⟨pss_nil, fun r hw k => k.nx _ _ _ _ hw (Same.refl _) r⟩
theorem sem_seq {K : PySem.W.Frag} (h1 : SemS K t a) (h2 : SemS K u b) : SemS K (tSeq t u) (wSeq a b) := fun r hw k =>
  h1 r hw ⟨fun η' σ' F' H' q s r' => h2 r' q (k.mono s), k.bk, k.ct, k.rt⟩
theorem dss_cons (h1 : DS X st t a) (h2 : DSs X rest u b) : DSs X (st :: rest) (tSeq t u) (wSeq a b) := ⟨pss_cons h1.ps h2.pss, sem_seq h1.sem h2.sem⟩
theorem dss_one (h1 : DS X st t a) : DSs X [st] t a := ⟨pss_one h1.ps, h1.sem⟩
theorem ds_pass : DS X (.Pass pos) tNext wNext := ⟨ps_pass, fun r hw k => k.nx _ _ _ _ hw (Same.refl _) r⟩
def wBreak : WS := fun D η => D.bk η
def wCont : WS := fun D η => D.ct η
theorem ds_break : DS X (.Break pos) tBreak wBreak := ⟨ps_break, fun r hw k => k.bk _ _ _ _ hw (Same.refl _) r⟩
theorem ds_continue : DS X (.Continue pos) tCont wCont := ⟨ps_continue, fun r hw k => k.ct _ _ _ _ hw (Same.refl _) r⟩
def wNever : WS := fun _ _ => False
theorem ds_never : DS X st tNever wNever := ⟨ps_never, fun _ hw _ => hw.elim⟩
theorem dss_never {sts : List Stmt} : DSs X sts tNever wNever := ⟨pss_never, fun _ hw _ => hw.elim⟩
def wRet (we : WE) : WS := fun D η => we η D.rt
theorem sem_ret {K : PySem.W.Frag} (h : SemE K te we) : SemS K (tRet te) (wRet we) := fun r hw k => h r hw fun d v F' H' q e hd => k.rt d v F' H' q (r.ext e).out hd
theorem ds_ret (h : DE X e te we) : DS X (.Return (some e) pos) (tRet te) (wRet we) := ⟨ps_ret h.pe, sem_ret h.sem⟩
def wRetN : WS := fun D _ => D.rt .none
theorem ds_retN : DS X (.Return none pos) tRetN wRetN := ⟨ps_retN, fun r hw k => k.rt _ _ _ _ hw r.out .non⟩
def wExpr (we : WE) : WS := fun D η => we η fun _ => D.nx η
theorem ds_expr (h : DE X e te we) (hs : swapsWith e none pos.line X.env = pure false := by rfl) : DS X (.Expr e pos) (tDrop te) (wExpr we) :=
  ⟨ps_expr h.pe hs, fun r hw k => h.sem r hw fun d v F' H' q e hd => k.nx _ _ _ _ q e.sF (r.ext e)⟩
def wIf (c : WT) (a b : WS) : WS := fun D η => c η fun k => if k = true then a D η else b D η
theorem ds_if {c : Expr} {xs ys : List Stmt} {tc : TT} {wc : WT} (hc : DTs X c tc wc) (ha : DSs X xs t a) (hb : DSs X ys u b) : DS X (.If c xs ys pos) (tIfS tc t u) (wIf wc a b) :=
  ⟨ps_if hc.pt ha.pss hb.pss, fun r hw k => hc.sem r hw fun j F' H' q e => by
    cases j with
    | true => rw [if_pos rfl] at q ⊢; exact ha.sem (r.ext e) q (k.mono e.sF)
    | false => rw [if_neg Bool.false_ne_true] at q ⊢; exact hb.sem (r.ext e) q (k.mono e.sF)⟩
/-- target = e -/
def wAsg (we : WE) (g : WG) : WS := fun D η => we η fun d => g d η D.nx
theorem sem_asg {K : PySem.W.Frag} {g : TG} {wg : WG} {L : List Nat} (h : SemE K te we) (hg : SemG K g wg L) : SemS K (tAsg te g) (wAsg we wg) := fun r hw k =>
  h r hw fun d v F' H' q e hd => hg (r.ext e) hd q fun σ' η' q' r' _ => k.nx _ _ _ _ q' e.sF r'
theorem ds_set (i : Nat) {x : Str} {pos' : Pos} (hN : X.N.Nodup) (h : DE X e te we) (hi : X.N[i]? = some x := by rfl) (hx : Loc X.env.scope x := by first | exact Or.inl rfl | exact Or.inr rfl) (hs : swapsWith e (some (.Name x pos')) pos.line X.env = pure false := by rfl)
    (hf : X.fn x = true ∨ X.env.scope.names.lookup x = some .local := by first | exact .inl rfl | exact .inr rfl) : DS X (.Assign [.Name x pos'] e pos) (tAsg te (gName i)) (wAsg we (wGn i)) :=
  ⟨ps_set hN hi hx h.pe hs hf, sem_asg h.sem sem_gname⟩
theorem ds_asg {tg : Expr} {g : TG} {wg : WG} {L : List Nat} (h : DE X e te we) (hg : DG X tg g wg L) (hs : swapsWithSole [tg] e pos.line X.env = pure false := by rfl) (hw : swappedStores [tg] e X.env = pure none := by rfl)
    (h1 : (assignEach [tg] X.env).map (·.2) = [assign tg X.env] := by rfl) : DS X (.Assign [tg] e pos) (tAsg te g) (wAsg we wg) := ⟨ps_asg h.pe hg.pg hs hw h1, sem_asg h.sem hg.sem⟩
/-- x = a new list (a new dict), of its own -/
def wAsgL (we : WE) (i : Nat) : WS := fun D η => we η fun d => D.nx (η.set i (.ow d))
theorem sem_asgL {K : PySem.W.Frag} {i : Nat} (h : SemL K te we) : SemS K (tAsg te (gName i)) (wAsgL we i) := fun r hw k =>
  h r hw fun ds xs a F' H' q e h1 h2 h3 h4 => k.nx _ _ _ _ q e.sF (r.setOw e i (d := .list ds) ⟨xs, h1, h2⟩ h3 h4)
theorem sem_asgD {K : PySem.W.Frag} {i : Nat} (h : SemD K te we) : SemS K (tAsg te (gName i)) (wAsgL we i) := fun r hw k =>
  h r hw fun es a F' H' q e h1 h2 h3 => k.nx _ _ _ _ q e.sF (r.setOw e i h1 h2 h3)
theorem ds_setL (i : Nat) {x : Str} {pos' : Pos} (hN : X.N.Nodup) (h : DL X e te we) (hi : X.N[i]? = some x := by rfl) (hx : Loc X.env.scope x := by first | exact Or.inl rfl | exact Or.inr rfl) (hs : swapsWith e (some (.Name x pos')) pos.line X.env = pure false := by rfl)
    (hf : X.fn x = true ∨ X.env.scope.names.lookup x = some .local := by first | exact .inl rfl | exact .inr rfl) : DS X (.Assign [.Name x pos'] e pos) (tAsg te (gName i)) (wAsgL we i) :=
  ⟨ps_set hN hi hx h.pe hs hf, sem_asgL h.sem⟩
theorem ds_setD (i : Nat) {x : Str} {pos' : Pos} (hN : X.N.Nodup) (h : DD X e te we) (hi : X.N[i]? = some x := by rfl) (hx : Loc X.env.scope x := by first | exact Or.inl rfl | exact Or.inr rfl) (hs : swapsWith e (some (.Name x pos')) pos.line X.env = pure false := by rfl)
    (hf : X.fn x = true ∨ X.env.scope.names.lookup x = some .local := by first | exact .inl rfl | exact .inr rfl) : DS X (.Assign [.Name x pos'] e pos) (tAsg te (gName i)) (wAsgL we i) :=
  ⟨ps_set hN hi hx h.pe hs hf, sem_asgD h.sem⟩
/-- x = [.. for ..] on one line, x a local -/
theorem ds_setLc (i : Nat) {y : Str} {py : Pos} {elt tg iter : Expr} {ifs : List Expr} {scope : Scope} {own : List (Str × Nat)} {spos : Pos} {wi : TI} {g : TG} {tt : TT} (hc : X.calm = true) (hN : X.N.Nodup) (hL : DL X (.ListComp elt [⟨tg, iter, ifs, 0⟩] scope pos) (tLc wi g tt te (own.map (·.2))) we)
    (hps : PS X (.Assign [.Name y py] (.ListComp elt [⟨tg, iter, ifs, 0⟩] scope pos) spos) (tAsg (tLc wi g tt te (own.map (·.2))) (gName i))) : DS X (.Assign [.Name y py] (.ListComp elt [⟨tg, iter, ifs, 0⟩] scope pos) spos) (tAsg (tLc wi g tt te (own.map (·.2))) (gName i)) (wAsgL we i) :=
  ⟨hps, sem_asgL hL.sem⟩
end

/-! ### a slot's own object changes -/
section
variable {K : PySem.W.Frag} {sx : Sx} {H0 F0 F H : Hp} {σ : L2.St} {η : En}
theorem Rep.put (r : Rep K sx H0 F0 F σ H η) {i : Nat} {a : Addr} {d d' : D} {o' : HO} (hi : η[i]? = some (.ow d)) (hs : σ[i]? = some (some (.ref a))) (ho : OwnAt K F (upd H a o') a d') : Rep K sx H0 F0 F σ (upd H a o') (η.set i (.ow d')) := by
  obtain ⟨a', e, h1, h2, h3, h4⟩ := r.sl i _ _ hi hs
  cases e
  have il : i < η.length := (List.getElem?_eq_some_iff.mp hi).1
  refine { base := ⟨fun b o q => ?_, ?_, r.base.no⟩, s0 := fun b o q n => ?_, f0 := r.f0, fr := r.fr, len := by rw [List.length_set]; exact r.len, sl := fun j s v q1 q2 => ?_, sep := fun j k d1 d2 b q1 q2 q3 q4 => ?_ }
  · rw [upd_ne (ne_of_none q h2)]; exact r.base.le _ _ q
  · cases sx with
    | none => trivial
    | some p =>
      obtain ⟨a1, b1⟩ := p
      obtain ⟨n, cs, l, m, t, z1, z2, z⟩ := r.base.ok
      exact ⟨n, cs, l, m, t, by rw [upd_ne (fun z => h4 (.inl z.symm))]; exact z1, by rw [upd_ne (fun z => h4 (.inr z.symm))]; exact z2, z⟩
  · rw [upd_ne (ne_of_none q h3)]; exact r.s0 b o q n
  · by_cases e : i = j
    · subst e
      rw [List.getElem?_set_self il] at q1
      cases q1
      rw [hs] at q2
      cases q2
      exact ⟨a, rfl, ho, h2, h3, h4⟩
    · rw [List.getElem?_set_ne e] at q1
      have q := r.sl j s v q1 q2
      cases s with
      | un => trivial
      | fz d => exact q
      | ow d2 =>
        obtain ⟨b, e1, g1, g2, g3, g4⟩ := q
        subst e1
        have nb : b ≠ a := fun z => by
          subst z
          exact e (r.sep i j _ _ _ hi q1 hs q2)
        exact ⟨b, rfl, g1.mono (Same.refl F) fun o z => by rw [upd_ne nb]; exact z, g2, g3, g4⟩
      | src => exact q
  · have old : ∀ (m : Nat) (e : D), (η.set i (.ow d'))[m]? = some (.ow e) → ∃ e', η[m]? = some (.ow e') := fun m e z => by
      by_cases em : i = m
      · subst em; exact ⟨d, hi⟩
      · rw [List.getElem?_set_ne em] at z; exact ⟨e, z⟩
    obtain ⟨e1, z1⟩ := old j d1 q1
    obtain ⟨e2, z2⟩ := old k d2 q2
    exact r.sep j k e1 e2 b z1 z2 q3 q4
/-- a slot's own object is frozen: a list -/
theorem Rep.frzL (r : Rep K sx H0 F0 F σ H η) {i : Nat} {a : Addr} {ds : List D} {xs : List V} (hi : η[i]? = some (.ow (.list ds))) (hs : σ[i]? = some (some (.ref a))) (hH : H a = some (.lst xs)) (hd : DtL K F xs ds) :
    Same F (upd F a (.lst xs)) ∧ Rep K sx H0 F0 (upd F a (.lst xs)) σ H (η.set i (.fz (.list ds))) := by
  obtain ⟨a', e, h1, h2, h3, h4⟩ := r.sl i _ _ hi hs
  cases e
  have il : i < η.length := (List.getElem?_eq_some_iff.mp hi).1
  have sF : Same F (upd F a (.lst xs)) := fun b o q => by rw [upd_ne (ne_of_none q h2)]; exact q
  refine ⟨sF, { base := ⟨fun b o q => ?_, r.base.ok, fun c hc => ?_⟩, s0 := r.s0, f0 := r.f0.trans sF, fr := fun b o q => ?_, len := by rw [List.length_set]; exact r.len, sl := fun j s v q1 q2 => ?_, sep := fun j k d1 d2 b q1 q2 q3 q4 => ?_ }⟩
  · by_cases e : b = a
    · subst e; rw [upd_same] at q; cases q; exact hH
    · rw [upd_ne e] at q; exact r.base.le _ _ q
  · rw [upd_ne (fun e => h4 (by rw [← e]; exact hc))]; exact r.base.no c hc
  · by_cases e : b = a
    · subst e; exact .inr (.inl h3)
    · rw [upd_ne e] at q; exact r.fr b o q
  · by_cases e : i = j
    · subst e
      rw [List.getElem?_set_self il] at q1
      cases q1
      rw [hs] at q2
      cases q2
      exact ⟨.ref a, rfl, .lst upd_same (hd.mono sF)⟩
    · rw [List.getElem?_set_ne e] at q1
      have q := r.sl j s v q1 q2
      cases s with
      | un => trivial
      | fz d => obtain ⟨x, e1, g⟩ := q; exact ⟨x, e1, g.mono sF⟩
      | ow d2 =>
        obtain ⟨b, e1, g1, g2, g3, g4⟩ := q
        subst e1
        have nb : b ≠ a := fun z => by
          subst z
          exact e (r.sep i j _ _ _ hi q1 hs q2)
        exact ⟨b, rfl, g1.mono sF fun o z => z, by rw [upd_ne nb]; exact g2, g3, g4⟩
      | src => exact q
  · have ne : ∀ (m : Nat) (e : D), (η.set i (.fz (.list ds)))[m]? = some (.ow e) → η[m]? = some (.ow e) := fun m e z => by
      by_cases em : i = m
      · subst em; rw [List.getElem?_set_self il] at z; cases z
      · rw [List.getElem?_set_ne em] at z; exact z
    exact r.sep j k d1 d2 b (ne j _ q1) (ne k _ q2) q3 q4
/-- .. a dict: it is locked for good -/
theorem Rep.frzD (r : Rep K sx H0 F0 F σ H η) {i : Nat} {a : Addr} {es : List (D × D)} {u : HO} {o : Obj} (hi : η[i]? = some (.ow (.dict es))) (hs : σ[i]? = some (some (.ref a))) (hH : H a = some u)
    (hd : (∃ kvs, u = .dK kvs ∧ DtK K F kvs es) ∨ ∃ o1 kvs, u = tdO a o1 ∧ TD F a o1 kvs ∧ DtT K F kvs es) :
    Same F (upd F a (.frz o u)) ∧ Rep K sx H0 F0 (upd F a (.frz o u)) σ (upd H a (.frz o u)) (η.set i (.fz (.dict es))) := by
  obtain ⟨a', e, h1, h2, h3, h4⟩ := r.sl i _ _ hi hs
  cases e
  have il : i < η.length := (List.getElem?_eq_some_iff.mp hi).1
  have sF : Same F (upd F a (.frz o u)) := fun b o q => by rw [upd_ne (ne_of_none q h2)]; exact q
  refine ⟨sF, { base := ⟨fun b o q => ?_, ?_, fun c hc => ?_⟩, s0 := fun b o q n => ?_, f0 := r.f0.trans sF, fr := fun b o q => ?_, len := by rw [List.length_set]; exact r.len, sl := fun j s v q1 q2 => ?_, sep := fun j k d1 d2 b q1 q2 q3 q4 => ?_ }⟩
  · by_cases e : b = a
    · subst e; rw [upd_same] at q ⊢; exact q
    · rw [upd_ne e] at q ⊢; exact r.base.le _ _ q
  · cases sx with
    | none => trivial
    | some p =>
      obtain ⟨a1, b1⟩ := p
      obtain ⟨n, cs, l, m, t, z1, z2, z⟩ := r.base.ok
      exact ⟨n, cs, l, m, t, by rw [upd_ne (fun z => h4 (.inl z.symm))]; exact z1, by rw [upd_ne (fun z => h4 (.inr z.symm))]; exact z2, z⟩
  · rw [upd_ne (fun e => h4 (by rw [← e]; exact hc))]; exact r.base.no c hc
  · rw [upd_ne (ne_of_none q h3)]; exact r.s0 b o q n
  · by_cases e : b = a
    · subst e; exact .inr (.inl h3)
    · rw [upd_ne e] at q; exact r.fr b o q
  · by_cases e : i = j
    · subst e
      rw [List.getElem?_set_self il] at q1
      cases q1
      rw [hs] at q2
      cases q2
      refine ⟨.ref a, rfl, ?_⟩
      rcases hd with ⟨kvs, rfl, hd⟩ | ⟨o1, kvs, rfl, ht, hd⟩
      · exact .dK upd_same (hd.mono sF)
      · exact .dT upd_same (ht.mono sF) (hd.mono sF)
    · rw [List.getElem?_set_ne e] at q1
      have q := r.sl j s v q1 q2
      cases s with
      | un => trivial
      | fz d => obtain ⟨x, e1, g⟩ := q; exact ⟨x, e1, g.mono sF⟩
      | ow d2 =>
        obtain ⟨b, e1, g1, g2, g3, g4⟩ := q
        subst e1
        have nb : b ≠ a := fun z => by
          subst z
          exact e (r.sep i j _ _ _ hi q1 hs q2)
        exact ⟨b, rfl, g1.mono sF fun o z => by rw [upd_ne nb]; exact z, by rw [upd_ne nb]; exact g2, g3, g4⟩
      | src => exact q
  · have ne : ∀ (m : Nat) (e : D), (η.set i (.fz (.dict es)))[m]? = some (.ow e) → η[m]? = some (.ow e) := fun m e z => by
      by_cases em : i = m
      · subst em; rw [List.getElem?_set_self il] at z; cases z
      · rw [List.getElem?_set_ne em] at z; exact z
    exact r.sep j k d1 d2 b (ne j _ q1) (ne k _ q2) q3 q4
end
/-- slot i is frozen ahead of what follows -/
def tFrz (i : Nat) (t : TS) : TS := fun D σ H => ∃ a u, σ[i]? = some (some (.ref a)) ∧ H a = some u ∧ ((∃ xs, u = .lst xs ∧ t D σ H) ∨ (Mut (some u) ∧ ∀ o, t D σ (upd H a (.frz o u))))
def wFrz (i : Nat) (w : WS) : WS := fun D η => match η[i]? with
  | some (.ow d) => w D (η.set i (.fz d))
  | _ => False
section
variable {X : Cx} {sts : List Stmt} {t : TS} {w : WS}
theorem pss_frz (i : Nat) (h : PSs X sts t) : PSs X sts (tFrz i t) := ⟨fun pins s σ H D I hw => by
  obtain ⟨a, u, _, hu, q⟩ := hw
  rcases q with ⟨xs, _, q⟩ | ⟨mu, q⟩
  · exact h.run pins s σ H D I q
  · obtain ⟨o, I1⟩ := I.lock hu mu
    exact h.run pins s σ _ D I1 (q o)⟩
theorem dss_frz (i : Nat) (h : DSs X sts t w) : DSs X sts (tFrz i t) (wFrz i w) := ⟨pss_frz i h.pss, fun {sx H0 F0 F σ H η D R} r hw k => by
  unfold wFrz at hw
  split at hw
  · rename_i d hi
    obtain ⟨v, hv, a, e, ho, h2⟩ := r.val hi
    subst e
    cases d with
    | list ds =>
      obtain ⟨xs, hH, hd⟩ := ho
      obtain ⟨sF, r'⟩ := r.frzL hi hv hH hd
      exact ⟨a, _, hv, hH, .inl ⟨xs, rfl, h.sem r' hw (k.mono sF)⟩⟩
    | dict es =>
      rcases ho with ⟨kvs, hH, hd⟩ | ⟨o1, kvs, hH, ht, hd⟩
      · refine ⟨a, _, hv, hH, .inr ⟨trivial, fun o => ?_⟩⟩
        obtain ⟨sF, r'⟩ := r.frzD (o := o) hi hv hH (.inl ⟨kvs, rfl, hd⟩)
        exact h.sem r' hw (k.mono sF)
      · refine ⟨a, _, hv, hH, .inr ⟨trivial, fun o => ?_⟩⟩
        obtain ⟨sF, r'⟩ := r.frzD (o := o) hi hv hH (.inr ⟨o1, kvs, rfl, ht, hd⟩)
        exact h.sem r' hw (k.mono sF)
    | _ => exact ho.elim
  · exact hw.elim⟩
end

/-! ### loops -/
def forGo (g : WG) (body : WS) (D : WEnds) : List PyData → En → Prop
  | [], η => D.nx η
  | d :: ds, η => g d η fun η1 => body { nx := forGo g body D ds, rt := D.rt, bk := D.nx, ct := forGo g body D ds } η1
def wFor (wi : WI) (g : WG) (body : WS) : WS := fun D η => wi η fun ds => forGo g body D ds η
theorem sem_for {K : PySem.W.Frag} {ti : TI} {wi : WI} {g : TG} {wg : WG} {L : List Nat} {tb : TS} {wb : WS} (hi : SemI K ti wi) (hg : SemG K g wg L) (hb : SemS K tb wb) : SemS K (tFor ti g tb) (wFor wi wg wb) := fun {sx H0 F0 F σ H η D R} r hw k => by
  refine hi r hw fun ds J F1 H1 q e1 hit => ?_
  refine ⟨fun i m σ' H' => ∃ F' η', i ≤ ds.length ∧ m = ds.length - i ∧ Same F1 F' ∧ Rep K sx H0 F0 F' σ' H' η' ∧ forGo wg wb D (ds.drop i) η', ⟨ds.length, F1, η, Nat.zero_le _, rfl, Same.refl _, r.ext e1, q⟩, ?_⟩
  rintro i m σ' H' ⟨F', η', h1, hm, sF, r', hq⟩
  by_cases h : i < ds.length
  · rw [List.drop_eq_getElem_cons h] at hq
    refine .inr ⟨hit.go sF r'.base h, fun σ2 H2 => ∃ F2 η2, Same F1 F2 ∧ Rep K sx H0 F0 F2 σ2 H2 η2 ∧ forGo wg wb D (ds.drop (i + 1)) η2, ?_, ?_⟩
    · rintro σ2 H2 ⟨F2, η2, a1, a2, a3⟩
      exact ⟨ds.length - (i + 1), by omega, F2, η2, h, rfl, a1, a2, a3⟩
    · intro x H2 hy
      obtain ⟨F2, e2, hd⟩ := hit.yld sF r'.base (List.getElem?_eq_getElem h) hy
      refine hg (r'.ext e2) hd hq fun σ3 η3 q3 r3 _ => ?_
      have s2 := sF.trans e2.sF
      refine hb r3 q3 ⟨fun η4 σ4 F4 H4 q4 s4 r4 => ⟨F4, η4, s2.trans s4, r4, q4⟩, fun η4 σ4 F4 H4 q4 s4 r4 => k.nx _ _ _ _ q4 (e1.sF.trans (s2.trans s4)) r4, fun η4 σ4 F4 H4 q4 s4 r4 => ⟨F4, η4, s2.trans s4, r4, q4⟩, k.rt⟩
  · have hl : i = ds.length := by omega
    subst hl
    rw [List.drop_length] at hq
    exact .inl ⟨hit.stop sF r'.base, k.nx _ _ _ _ hq (e1.sF.trans sF) r'⟩
theorem ds_for {X : Cx} {tg iter : Expr} {body : List Stmt} {pos : Pos} {ti : TI} {wi : WI} {g : TG} {wg : WG} {L : List Nat} {tb : TS} {wb : WS} (hp : PassesOwn (model X.prog X.w) X.A X.env X.xe) (hc : X.calm = true) (hi : DI X tg iter ti wi) (hg : DG X tg g wg L) (hb : DSs X body tb wb)
    (hs : ∀ x, foldedSetIterable iter X.env x = pure x := by intro _; rfl) : DS X (.For tg iter body [] pos) (tFor ti g tb) (wFor wi wg wb) := ⟨ps_for hp hc hi.pi hg.pg hb.pss hs, sem_for hi.sem hg.sem hb.sem⟩
def wWhile (c : WT) (body : WS) : WS := fun D η => ∃ I : Nat → En → Prop, (∃ m, I m η) ∧ ∀ m η, I m η → c η fun k => if k = true then body { nx := fun η' => ∃ m', m' < m ∧ I m' η', rt := D.rt, bk := D.nx, ct := fun η' => ∃ m', m' < m ∧ I m' η' } η else D.nx η
end W2

set_option Elab.async false
set_option linter.all false
set_option maxRecDepth 100000
/-! W2F: dicts over data; a slot's own list or dict changed. -/
namespace W2
open PySem PySem.Spec PyProof.Rows L2

/-! ### keys -/
def flatKey : D → Bool
  | .int _ => true
  | .str _ => true
  | _ => false
def intKey : D → Bool
  | .int _ => true
  | _ => false
def keyOk : D → Bool
  | .int _ => true
  | .str _ => true
  | .tuple ks => ks.all intKey
  | _ => false
def kindOk (es : List (D × D)) (k : D) : Bool := es.all fun e => flatKey e.1 == flatKey k
def dGet (es : List (D × D)) (k : D) : Option D := (es.find? fun e => PyData.eqv e.1 k).map (·.2)
def dPut (es : List (D × D)) (k v : D) : List (D × D) := if es.any (fun e => PyData.eqv e.1 k) = true then es.map (fun e => if PyData.eqv e.1 k = true then (e.1, v) else e) else es ++ [(k, v)]
theorem eqv_kD : ∀ (a b : Key), PyData.eqv (kD a) (kD b) = decide (a = b)
  | .inl i, .inl j => by
    show (i == j) = _
    by_cases e : i = j
    · subst e; simp
    · rw [decide_eq_false (fun z => e (Sum.inl.inj z))]; exact beq_eq_false_iff_ne.mpr e
  | .inr i, .inr j => by
    show (i == j) = _
    by_cases e : i = j
    · subst e; simp
    · rw [decide_eq_false (fun z => e (Sum.inr.inj z))]; exact beq_eq_false_iff_ne.mpr e
  | .inl i, .inr j => by
    show false = _
    exact (decide_eq_false (fun z => nomatch z)).symm
  | .inr i, .inl j => by
    show false = _
    exact (decide_eq_false (fun z => nomatch z)).symm
theorem eqvAll_kD : ∀ (a b : List Key), PyData.eqvAll (a.map kD) (b.map kD) = decide (a = b)
  | [], [] => rfl
  | [], _ :: _ => rfl
  | _ :: _, [] => rfl
  | x :: a, y :: b => by
    show (PyData.eqv (kD x) (kD y) && PyData.eqvAll (a.map kD) (b.map kD)) = _
    rw [eqv_kD, eqvAll_kD a b]
    by_cases e : x = y
    · by_cases e' : a = b
      · subst e; subst e'; simp
      · rw [decide_eq_false e', decide_eq_false (fun z => e' (List.cons.inj z).2), Bool.and_false]
    · rw [decide_eq_false e, decide_eq_false (fun z => e (List.cons.inj z).1), Bool.false_and]
theorem eqv_kT (a b : List Key) : PyData.eqv (.tuple (a.map kD)) (.tuple (b.map kD)) = decide (a = b) := eqvAll_kD a b
theorem flat_kD : ∀ (k : Key), flatKey (kD k) = true
  | .inl _ => rfl
  | .inr _ => rfl
theorem flat_of {d : D} (h : flatKey d = true) : ∃ k, d = kD k := by
  cases d <;> first | (cases h; done) | skip
  · exact ⟨.inl _, rfl⟩
  · exact ⟨.inr _, rfl⟩
theorem ints_of : ∀ {ds : List D}, ds.all intKey = true → ∃ is : List Int, ds = is.map PyData.int
  | [], _ => ⟨[], rfl⟩
  | d :: ds, h => by
    rw [List.all_cons, Bool.and_eq_true] at h
    cases d <;> first | (cases h.1; done) | skip
    rename_i i
    obtain ⟨is, rfl⟩ := ints_of h.2
    exact ⟨i :: is, rfl⟩
def kI (is : List Int) : List Key := is.map Sum.inl
theorem kI_D (is : List Int) : (kI is).map kD = is.map PyData.int := by unfold kI; rw [List.map_map]; rfl
theorem keyOk_cases {d : D} (h : keyOk d = true) : (∃ k, d = kD k) ∨ ∃ is : List Int, d = .tuple ((kI is).map kD) := by
  cases d <;> first | (cases h; done) | skip
  · exact .inl ⟨.inl _, rfl⟩
  · exact .inl ⟨.inr _, rfl⟩
  · obtain ⟨is, rfl⟩ := ints_of h
    exact .inr ⟨is, by rw [kI_D]⟩
section
variable {K : PySem.W.Frag} {F : Hp}
/-- what stands at a key -/
def RelD (K : PySem.W.Frag) (F : Hp) : Option V → Option D → Prop
  | none, none => True
  | some v, some d => Dt K F v d
  | _, _ => False
theorem DtK.get (k : Key) : ∀ {kvs : List (Key × V)} {es : List (D × D)}, DtK K F kvs es → RelD K F (valV kvs k) (dGet es (kD k))
  | _, _, .nil => trivial
  | _, _, .cons (k := k') (v := v) (r := r) (d := d) (rs := rs) h t => by
    unfold valV dGet
    rw [List.find?_cons, List.find?_cons, eqv_kD]
    by_cases e : k' = k
    · rw [decide_eq_true e]; exact h
    · rw [decide_eq_false e]; exact t.get k
theorem DtT.get (k : List Key) : ∀ {kvs : List (List Key × V)} {es : List (D × D)}, DtT K F kvs es → RelD K F (valV kvs k) (dGet es (.tuple (k.map kD)))
  | _, _, .nil => trivial
  | _, _, .cons (k := k') (v := v) (r := r) (d := d) (rs := rs) h t => by
    unfold valV dGet
    rw [List.find?_cons, List.find?_cons, eqv_kT]
    by_cases e : k' = k
    · rw [decide_eq_true e]; exact h
    · rw [decide_eq_false e]; exact t.get k
theorem DtK.any (k : Key) : ∀ {kvs : List (Key × V)} {es : List (D × D)}, DtK K F kvs es → (kvs.any fun kv => decide (kv.1 = k)) = es.any fun e => PyData.eqv e.1 (kD k)
  | _, _, .nil => rfl
  | _, _, .cons _ t => by rw [List.any_cons, List.any_cons, eqv_kD, t.any k]
theorem DtT.any (k : List Key) : ∀ {kvs : List (List Key × V)} {es : List (D × D)}, DtT K F kvs es → (kvs.any fun kv => decide (kv.1 = k)) = es.any fun e => PyData.eqv e.1 (.tuple (k.map kD))
  | _, _, .nil => rfl
  | _, _, .cons _ t => by rw [List.any_cons, List.any_cons, eqv_kT, t.any k]
theorem DtK.snoc {k : Key} {v : V} {d : D} (h : Dt K F v d) : ∀ {kvs : List (Key × V)} {es : List (D × D)}, DtK K F kvs es → DtK K F (kvs ++ [(k, v)]) (es ++ [(kD k, d)])
  | _, _, .nil => .cons h .nil
  | _, _, .cons a t => .cons a (t.snoc h)
theorem DtT.snoc {k : List Key} {v : V} {d : D} (h : Dt K F v d) : ∀ {kvs : List (List Key × V)} {es : List (D × D)}, DtT K F kvs es → DtT K F (kvs ++ [(k, v)]) (es ++ [(.tuple (k.map kD), d)])
  | _, _, .nil => .cons h .nil
  | _, _, .cons a t => .cons a (t.snoc h)
theorem DtK.over {k : Key} {v : V} {d : D} (h : Dt K F v d) : ∀ {kvs : List (Key × V)} {es : List (D × D)}, DtK K F kvs es → DtK K F (kvs.map fun kv => if kv.1 = k then (kv.1, v) else kv) (es.map fun e => if PyData.eqv e.1 (kD k) = true then (e.1, d) else e)
  | _, _, .nil => .nil
  | _, _, .cons (k := k') a t => by
    rw [List.map_cons, List.map_cons, eqv_kD]
    by_cases e : k' = k
    · simp only [e, decide_true, if_true]
      exact .cons h (t.over h)
    · simp only [e, decide_false, if_false, Bool.false_eq_true]
      exact .cons a (t.over h)
theorem DtT.over {k : List Key} {v : V} {d : D} (h : Dt K F v d) : ∀ {kvs : List (List Key × V)} {es : List (D × D)}, DtT K F kvs es → DtT K F (kvs.map fun kv => if kv.1 = k then (kv.1, v) else kv) (es.map fun e => if PyData.eqv e.1 (.tuple (k.map kD)) = true then (e.1, d) else e)
  | _, _, .nil => .nil
  | _, _, .cons (k := k') a t => by
    rw [List.map_cons, List.map_cons, eqv_kT]
    by_cases e : k' = k
    · simp only [e, decide_true, if_true]
      exact .cons h (t.over h)
    · simp only [e, decide_false, if_false, Bool.false_eq_true]
      exact .cons a (t.over h)
theorem DtK.put {k : Key} {v : V} {d : D} {kvs : List (Key × V)} {es : List (D × D)} (t : DtK K F kvs es) (h : Dt K F v d) : DtK K F (putK kvs k v) (dPut es (kD k) d) := by
  unfold putK dPut
  rw [t.any k]
  by_cases c : (es.any fun e => PyData.eqv e.1 (kD k)) = true
  · rw [if_pos c, if_pos c]; exact t.over h
  · rw [if_neg c, if_neg c]; exact t.snoc h
theorem DtT.put {k : List Key} {v : V} {d : D} {kvs : List (List Key × V)} {es : List (D × D)} (t : DtT K F kvs es) (h : Dt K F v d) : DtT K F (putK kvs k v) (dPut es (.tuple (k.map kD)) d) := by
  unfold putK dPut
  rw [t.any k]
  by_cases c : (es.any fun e => PyData.eqv e.1 (.tuple (k.map kD))) = true
  · rw [if_pos c, if_pos c]; exact t.over h
  · rw [if_neg c, if_neg c]; exact t.snoc h
theorem DtK.kind {k : List Key} : ∀ {kvs : List (Key × V)} {es : List (D × D)}, DtK K F kvs es → kindOk es (.tuple (k.map kD)) = true → kvs = [] ∧ es = []
  | _, _, .nil, _ => ⟨rfl, rfl⟩
  | _, _, .cons (k := k') _ _, h => by
    exfalso
    unfold kindOk at h
    rw [List.all_cons, Bool.and_eq_true] at h
    have h1 := h.1
    rw [flat_kD] at h1
    cases h1
theorem DtT.kind {k : Key} : ∀ {kvs : List (List Key × V)} {es : List (D × D)}, DtT K F kvs es → kindOk es (kD k) = true → kvs = [] ∧ es = []
  | _, _, .nil, _ => ⟨rfl, rfl⟩
  | _, _, .cons (k := k') _ _, h => by
    exfalso
    unfold kindOk at h
    rw [List.all_cons, Bool.and_eq_true] at h
    have h1 := h.1
    rw [flat_kD] at h1
    cases h1
end

/-! ### keys that are tuples -/
/-- F as the library's own rules would have it: the tuples plain -/
def fk (F : Hp) : Hp := fun b => match F b with
  | some (.frz o (.tup xs)) => if o.dict.isNone = true then some (.tup xs) else none
  | _ => none
theorem fk_of {F : Hp} {b : Addr} {xs : List V} (h : TupAt F b xs) : fk F b = some (.tup xs) := by
  obtain ⟨o, h1, h2⟩ := h
  unfold fk
  rw [h2]
  simp [h1]
theorem of_fk {F : Hp} {b : Addr} {xs : List V} (h : fk F b = some (.tup xs)) : TupAt F b xs := by
  unfold fk at h
  split at h
  · rename_i o ys e
    split at h
    · rename_i c
      cases h
      exact ⟨o, by simpa using c, e⟩
    · cases h
  · cases h
theorem KTF.kt {F : Hp} {kvs : List (List Key × V)} {xs : List (List Key × Addr × Value)} (r : KTF F kvs xs) : KT (fk F) kvs xs := Paired.mapP r fun _ _ z => ⟨z.1, fk_of z.2.1, z.2.2⟩
theorem KTF.of {F : Hp} {kvs : List (List Key × V)} {xs : List (List Key × Addr × Value)} (r : KT (fk F) kvs xs) : KTF F kvs xs := Paired.mapP r fun _ _ z => ⟨z.1, of_fk z.2.1, z.2.2⟩
theorem KTF.val {F : Hp} {kvs : List (List Key × V)} {xs : List (List Key × Addr × Value)} (r : KTF F kvs xs) (k : List Key) : RelO (valV kvs k) ((atKey xs k).map (·.2)) := r.kt.val k
theorem KTF.put {F : Hp} {kvs : List (List Key × V)} {xs : List (List Key × Addr × Value)} (r : KTF F kvs xs) (k : List Key) {b : Addr} {y : V} {u : Value} (hb : TupAt F b (k.map kV)) (ry : RelV y u) : KTF F (putK kvs k y) (storedH xs k b u) := .of (r.kt.put k (fk_of hb) ry)
def KeyAt (H : Hp) (y : V) : Prop := (∃ k, y = kV k) ∨ ∃ (k : List Key) (b : Addr), y = .ref b ∧ TupAt H b (k.map kV)
def EmptyD (H : Hp) (a : Addr) : Prop := Rd H a (.dK []) ∨ ∃ o, RdT H a o ∧ TD H a o []
def DGetE (H : Hp) (a : Addr) (y : V) (r : Option V) : Prop := DGet H a y r ∨ (∃ o kvs k b, RdT H a o ∧ TD H a o kvs ∧ y = .ref b ∧ TupAt H b (k.map kV) ∧ r = valV kvs k) ∨ (r = none ∧ EmptyD H a ∧ KeyAt H y)
/-- a store; what is made of a dict with tuple keys is told by its very object -/
def DPutE (H : Hp) (a : Addr) (y v : V) (R : Hp → Prop) : Prop := (∃ H', DPut H a y v H' ∧ R H') ∨
  (∃ o kvs xs is b, H a = some (tdO a o) ∧ (a == sysModules) = false ∧ TObj o xs ∧ KTF H kvs xs ∧ y = .ref b ∧ TupAt H b ((kI is).map kV) ∧ xs.length < sizeLine ∧ ∀ o' u, RelV v u → TObj o' (storedH xs (kI is) b u) → R (upd H a (tdO a o'))) ∨
  (∃ is b, H a = some (.dK []) ∧ y = .ref b ∧ TupAt H b ((kI is).map kV) ∧ ((a == sysModules) = false → ∀ o' u, RelV v u → TObj o' (storedH [] (kI is) b u) → R (upd H a (tdO a o')))) ∨
  (∃ o k, H a = some (tdO a o) ∧ TD H a o [] ∧ y = kV k ∧ R (upd H a (.dK [(k, v)])))
def IsDX (H : Hp) (a : Addr) : Prop := IsD H a ∨ ∃ o kvs, RdT H a o ∧ TD H a o kvs
section
variable {X : Cx} {pins : List (Addr × Obj)} {σ : L2.St} {H : Hp} {s : Shared} {a : Addr} {y v d : V} {u r : Value} {o : Option V} {A : Around} {E : Value → Shared → Prop}
theorem isDX_at (I : Inv X pins σ H s) (d : IsDX H a) : s.TypeIs (.ref a) "dict" ∧ (∀ b, Value.ref a = .ref b → ∃ ob, s.heap.get? b = some ob ∧ ob.dict = none) ∧ (a == sysModules) = false := by
  rcases d with d | ⟨o, kvs, rd, td⟩
  · exact isD_at I d
  · obtain ⟨hd, xs, _, _, dd⟩ := td.of (P := X.prog) (w := X.w) rd I.hok
    refine ⟨dd.typeIs, fun b q => ?_, hd⟩
    cases q
    obtain ⟨ob, _, _, h1, h2, _⟩ := dd
    exact ⟨ob, h1, h2.2.1⟩
theorem empty_both {P : Program} {w : World} {h : Heap} (ok : HOk P w H h) (e : EmptyD H a) : (a == sysModules) = false ∧ h.DictOf (mixKind P w) a [] ∧ h.DictOfH (tupleKind (mixKind P w)) a [] := by
  rcases e with e | ⟨ox, rd, td⟩
  · obtain ⟨_, hd, vs, rel, dd⟩ := dk_rd ok e
    have : vs = [] := by cases rel; rfl
    subst this
    obtain ⟨ob, es, ep, h1, h2, h3, h4, h5, h6⟩ := id dd
    refine ⟨hd, dd, ob, es, ep, h1, h2, h3, ?_, fun x hx => absurd hx (by simp), List.nodup_nil⟩
    have e0 : es.toList = [] := by
      cases hh : es.toList with
      | nil => rfl
      | cons x r => rw [hh] at h5; cases h5
    rw [e0]; rfl
  · obtain ⟨hd, xs, rel, _, dd⟩ := td.of (P := P) (w := w) rd ok
    have : xs = [] := by cases rel; rfl
    subst this
    obtain ⟨ob, es, ep, h1, h2, h3, h4, h5, h6⟩ := id dd
    have e0 : es.toList = [] := by rw [h4]; rfl
    have e1 : es = #[] := Array.toList_inj.mp (by rw [e0])
    subst e1
    refine ⟨hd, ⟨ob, #[], ep, h1, h2, h3, ?_, ?_, List.nodup_nil⟩, dd⟩
    · first | exact fun i hi => absurd hi (by simp) | (constructor <;> simp) | simp [KeysOf]
    · exact .nil
theorem d_getItemE {Q : Value → Shared → Prop} (hu : A.units + 1 < cLine) (I : Inv X pins σ H s) (g : DGetE H a y (some v)) (ry : RelV y u) (h : ∀ w' s', Inv X pins σ H s' → RelV v w' → Q w' s') :
    wpAny (model X.prog X.w) A (getItem (.ref a) u) Q E s := by
  rcases g with g | ⟨o, kvs, k, b, rd, td, rfl, eb, l⟩ | ⟨e, _⟩
  · exact d_getItem hu I g ry h
  · cases (show u = Value.ref b from ry)
    obtain ⟨hd, xs, rel, _, dd⟩ := td.of (P := X.prog) (w := X.w) rd I.hok
    obtain ⟨w', hw, rw'⟩ := RelO.some_of (v := v) (o := (atKey xs k).map (·.2)) (by rw [l]; exact rel.val k)
    obtain ⟨p, hp, hp2⟩ := Option.map_eq_some_iff.mp hw
    refine wpAny_getItem_heap (tupleKind_room_in1 hu) (eb.key I.hok) dd hp (?_ : Q p.2 _); rw [hp2]; exact h w' _ (I.tok _) rw'
  · cases e
theorem d_inE {Q : Value → Shared → Prop} (hu : A.units + 1 < cLine) (I : Inv X pins σ H s) (g : DGetE H a y o) (ry : RelV y u) (h : ∀ s', Inv X pins σ H s' → Q (.bool o.isSome) s') :
    wpAny (model X.prog X.w) A (compareOp .In u (.ref a)) Q E s := by
  rcases g with g | ⟨ox, kvs, k, b, rd, td, rfl, eb, l⟩ | ⟨rfl, em, ⟨k, rfl⟩ | ⟨k, b, rfl, eb⟩⟩
  · exact d_in hu I g ry h
  · cases (show u = Value.ref b from ry)
    obtain ⟨hd, xs, rel, _, dd⟩ := td.of (P := X.prog) (w := X.w) rd I.hok
    refine wpAny_in_heap (tupleKind_room_in1 hu) (eb.key I.hok) hd dd ?_
    have q := (rel.val k).isSome_eq
    rw [← l, Option.isSome_map] at q
    rw [← q]
    exact h _ (I.tok _)
  · obtain ⟨hd, dd, _⟩ := empty_both I.hok em
    exact wpAny_in_of (kV_is ry) hd dd.mapOf (h _ (I.tok _))
  · cases (show u = Value.ref b from ry)
    obtain ⟨hd, _, dd⟩ := empty_both I.hok em
    exact wpAny_in_heap (tupleKind_room_in1 hu) (eb.key I.hok) hd dd (h _ (I.tok _))
theorem d_notInE {Q : Value → Shared → Prop} (hu : A.units + 1 < cLine) (I : Inv X pins σ H s) (g : DGetE H a y o) (ry : RelV y u) (h : ∀ s', Inv X pins σ H s' → Q (.bool (!o.isSome)) s') :
    wpAny (model X.prog X.w) A (compareOp .NotIn u (.ref a)) Q E s := by
  rcases g with g | ⟨ox, kvs, k, b, rd, td, rfl, eb, l⟩ | ⟨rfl, em, ⟨k, rfl⟩ | ⟨k, b, rfl, eb⟩⟩
  · exact d_notIn hu I g ry h
  · cases (show u = Value.ref b from ry)
    obtain ⟨hd, xs, rel, _, dd⟩ := td.of (P := X.prog) (w := X.w) rd I.hok
    refine wpAny_notIn_heap (tupleKind_room_in1 hu) (eb.key I.hok) hd dd ?_
    have q := (rel.val k).isSome_eq
    rw [← l, Option.isSome_map] at q
    rw [← q]
    exact h _ (I.tok _)
  · obtain ⟨hd, dd, _⟩ := empty_both I.hok em
    exact wpAny_notIn_of (kV_is ry) hd dd.mapOf (h _ (I.tok _))
  · cases (show u = Value.ref b from ry)
    obtain ⟨hd, _, dd⟩ := empty_both I.hok em
    exact wpAny_notIn_heap (tupleKind_room_in1 hu) (eb.key I.hok) hd dd (h _ (I.tok _))
theorem d_get2E {Q : Value → Shared → Prop} (hu : A.units + 1 < cLine) (I : Inv X pins σ H s) (g : DGetE H a y o) (ry : RelV y u) (rd : RelV d r) (h : ∀ w' s', Inv X pins σ H s' → RelV (o.getD d) w' → Q w' s') :
    wpAny (model X.prog X.w) A (call (.builtin "dict.get") [.ref a, u, r]) Q E s := by
  rcases g with g | ⟨ox, kvs, k, b, rdt, td, rfl, eb, l⟩ | ⟨rfl, em, ⟨k, rfl⟩ | ⟨k, b, rfl, eb⟩⟩
  · exact d_get2 hu I g ry rd h
  · cases (show u = Value.ref b from ry)
    obtain ⟨hd, xs, rel, _, dd⟩ := td.of (P := X.prog) (w := X.w) rdt I.hok
    refine call_meetsIn PySem.F.slot_dict_get dd.typeIs PySem.F.entry_dict_get (PySem.F.args_dict_get_3 _ _ _) (meetsH_dict_get_default (tupleKind (mixKind X.prog X.w)) a b hd r) ⟨tupleKind_room_in1 hu, k, xs, eb.key I.hok, dd, h _ _ (I.tok _) (by rw [l]; exact (rel.val k).getD rd)⟩
  · obtain ⟨hd, dd, _⟩ := empty_both I.hok em
    exact call_meetsIn PySem.F.slot_dict_get dd.typeIs PySem.F.entry_dict_get (PySem.F.args_dict_get_3 _ _ _) (meets_dict_get_default (mixKind X.prog X.w) a (kV_is ry) hd r) ⟨_, dd.mapOf, h _ _ (I.tok _) rd⟩
  · cases (show u = Value.ref b from ry)
    obtain ⟨hd, _, dd⟩ := empty_both I.hok em
    exact call_meetsIn PySem.F.slot_dict_get dd.typeIs PySem.F.entry_dict_get (PySem.F.args_dict_get_3 _ _ _) (meetsH_dict_get_default (tupleKind (mixKind X.prog X.w)) a b hd r) ⟨tupleKind_room_in1 hu, k, [], eb.key I.hok, dd, h _ _ (I.tok _) rd⟩
theorem stored_ints {xs : List (List Key × Addr × Value)} {is : List Int} {b : Addr} {u : Value} (h : ∀ x ∈ xs, ∃ is : List Int, x.1 = is.map Sum.inl) : ∀ x ∈ storedH xs (kI is) b u, ∃ is : List Int, x.1 = is.map Sum.inl := fun x hx => by
  rcases mem_storedH_key hx with ⟨z, hz, e, _⟩ | ⟨e, _⟩
  · rw [e]; exact h z hz
  · exact ⟨is, e⟩
theorem d_setItemE {R : Hp → Prop} {Q : Unit → Shared → Prop} (hu : A.units + 1 < cLine) (I : Inv X pins σ H s) (g : DPutE H a y v R) (ry : RelV y u) (rv : RelV v r) (h : ∀ H' s', R H' → Inv X pins σ H' s' → Q () s') :
    wpAny (model X.prog X.w) A (setItem (.ref a) u r) Q E s := by
  rcases g with ⟨H', g, q⟩ | ⟨o, kvs, xs, is, b, e, hd, t1, t2, rfl, eb, hz, q⟩ | ⟨is, b, e, rfl, eb, q⟩ | ⟨o, k, e, td, rfl, q⟩
  · exact d_setItem hu I g ry rv fun s' I' => h _ s' q I'
  · cases (show u = Value.ref b from ry)
    have td : TD H a o kvs := ⟨hd, xs, t1, t2⟩
    obtain ⟨es, ep, d1, _, d2⟩ := t1.ents
    have dd : s.heap.DictOfH (tupleKind (mixKind X.prog X.w)) a xs := ⟨o, es, ep, (show RdT H a o from .inl e).get I.hok, t1.exact, d1, d2 _ _, KTF.all I.hok t2, t1.nodup⟩
    refine wpAny_setItem_heap (hsz := t1.small) (tupleKind_room_in1 hu) (eb.key I.hok) dd fun g dd' hs => ?_
    obtain ⟨o', he, ob⟩ := TObj.mk' (by have := storedH_length xs (kI is) b r; omega) (stored_ints t1.intk) dd'
    exact h _ _ (q o' r rv ob) (d_write I (by rw [e]; exact True.intro) hs ⟨o', he⟩ (ext_ok he))
  · cases (show u = Value.ref b from ry)
    obtain ⟨hd, _, dd⟩ := empty_both (P := X.prog) (w := X.w) I.hok (.inl (.inl e))
    refine wpAny_setItem_heap (hsz := Nat.zero_le _) (tupleKind_room_in1 hu) (eb.key I.hok) dd fun g dd' hs => ?_
    obtain ⟨o', he, ob⟩ := TObj.mk' (by have := storedH_length [] (kI is) b r; rw [sizeLine_eq]; simp at this; omega) (stored_ints (xs := []) (fun x hx => absurd hx (by simp))) dd'
    exact h _ _ (q hd o' r rv ob) (d_write I (by rw [e]; exact True.intro) hs ⟨o', he⟩ (ext_ok he))
  · obtain ⟨hd, dd, _⟩ := empty_both (P := X.prog) (w := X.w) I.hok (.inr ⟨o, .inl e, td⟩)
    refine wpAny_setItem_pairs (hsz := Nat.zero_le _) (kV_is ry) dd fun g dd' hs => h _ _ q ?_
    have he : ∃ q, g.get? a = some q := let ⟨q, _, _, hq, _⟩ := dd'; ⟨q, hq⟩
    have rel0 : KV ([] : List (Key × V)) ([] : List (Key × Value)) := .nil
    exact d_write I (by rw [e]; exact True.intro) hs he (dk_new (by show 1 ≤ sizeLine; decide) hd (rel0.put k rv) dd')
end

/-! ### rules -/
/-- a key that is frozen can be asked for -/
theorem Dt.keyAt {K : PySem.W.Frag} {F : Hp} {y : V} {k : D} (h : Dt K F y k) (ok : keyOk k = true) : (∃ i, k = kD i ∧ y = kV i) ∨ ∃ (is : List Int) (b : Addr), k = .tuple ((kI is).map kD) ∧ y = .ref b ∧ TupAt F b ((kI is).map kV) := by
  rcases keyOk_cases ok with ⟨i, rfl⟩ | ⟨is, rfl⟩
  · exact .inl ⟨i, rfl, h.keyV⟩
  · cases h with
    | tup h1 h2 => exact .inr ⟨is, _, rfl, rfl, by rw [← h2.keysV]; exact h1⟩
theorem Nw.dgetE {K : PySem.W.Frag} {sx : Sx} {F H : Hp} {x y : V} {es : List (D × D)} {k : D} (b : Base sx F H) (hx : Nw K F H x (.dict es)) (hy : Dt K F y k) (ok : keyOk k = true) (kd : kindOk es k = true) :
    ∃ a o, x = .ref a ∧ IsDX H a ∧ DGetE H a y o ∧ RelD K F o (dGet es k) := by
  obtain ⟨a, rfl, hd⟩ := hx.dict b.le
  rcases hd with ⟨kvs, rd, hd⟩ | ⟨o1, kvs, rd, td, hd⟩
  · rcases hy.keyAt ok with ⟨i, rfl, rfl⟩ | ⟨is, c, rfl, rfl, hc⟩
    · exact ⟨a, _, rfl, .inl (.inl ⟨_, rd⟩), .inl (.inl ⟨kvs, i, rd, rfl, rfl⟩), hd.get i⟩
    · obtain ⟨rfl, rfl⟩ := hd.kind kd
      exact ⟨a, Option.none, rfl, .inl (.inl ⟨_, rd⟩), .inr (.inr ⟨rfl, .inl rd, .inr ⟨_, c, rfl, hc.mono b.le⟩⟩), trivial⟩
  · have tH := td.mono b.le
    rcases hy.keyAt ok with ⟨i, rfl, rfl⟩ | ⟨is, c, rfl, rfl, hc⟩
    · obtain ⟨rfl, rfl⟩ := hd.kind kd
      exact ⟨a, Option.none, rfl, .inr ⟨_, _, rd, tH⟩, .inr (.inr ⟨rfl, .inr ⟨_, rd, tH⟩, .inl ⟨i, rfl⟩⟩), trivial⟩
    · exact ⟨a, _, rfl, .inr ⟨_, _, rd, tH⟩, .inr (.inl ⟨o1, kvs, _, c, rd, tH, rfl, hc.mono b.le, rfl⟩), hd.get _⟩
theorem RelD.some {K : PySem.W.Frag} {F : Hp} {o : Option V} {d : D} (h : RelD K F o (some d)) : ∃ v, o = some v ∧ Dt K F v d := by
  cases o with
  | none => exact h.elim
  | some v => exact ⟨v, rfl, h⟩
theorem RelD.getD {K : PySem.W.Frag} {F : Hp} {o : Option V} {o' : Option D} {z : V} {d : D} (h : RelD K F o o') (hz : Dt K F z d) : Dt K F (o.getD z) (o'.getD d) := by
  cases o <;> cases o' <;> first | exact h.elim | skip
  · exact hz
  · exact h
theorem RelD.isSome {K : PySem.W.Frag} {F : Hp} {o : Option V} {o' : Option D} (h : RelD K F o o') : o.isSome = o'.isSome := by
  cases o <;> cases o' <;> first | exact h.elim | rfl
/-- d.get(k, z) -/
def tDGet2E (td ty tx : TE) : TE := fun σ H Q => td σ H fun x H1 => ∃ a, x = .ref a ∧ IsDX H1 a ∧ ty σ H1 fun y H2 => tx σ H2 fun z H3 => ∃ o, DGetE H3 a y o ∧ Q (o.getD z) H3
def wGet2 (wd wk wz : WE) : WE := fun η Q => wd η fun d => match d with
  | .dict es => wk η fun k => wz η fun z => keyOk k = true ∧ kindOk es k = true ∧ Q ((dGet es k).getD z)
  | _ => False
/-- k in d, a dict; d[k] -/
def tDInE (ty td : TE) : TE := fun σ H Q => ty σ H fun y H1 => td σ H1 fun x H2 => ∃ a o, x = .ref a ∧ DGetE H2 a y o ∧ Q (.bl o.isSome) H2
def tDNotInE (ty td : TE) : TE := fun σ H Q => ty σ H fun y H1 => td σ H1 fun x H2 => ∃ a o, x = .ref a ∧ DGetE H2 a y o ∧ Q (.bl (!o.isSome)) H2
section
variable {X : Cx} {o e f i : Expr} {apos cpos pos : Pos} {td ty tx : TE} {wd wk wz : WE}
theorem pe_dget2E (hu : X.A.units + 1 < cLine) (ho : PE X o td) (he : PE X e ty) (hf : PE X f tx) (m : M2 X o "get" apos e f cpos) : PE X (.Call (.Attribute o "get" apos) [e, f] [] cpos) (tDGet2E td ty tx) := by
  refine ⟨fun pins s σ H Q I h => ?_⟩
  refine wpAny_Call_method m.base m.few m.line PySem.F.plainAttrs_dict PySem.F.slot_dict_get PySem.F.type_dict_get (thn (ho.run pins s σ H _ I h) fun u s1 ⟨x, H1, I1, rx, a, ex, d, q1⟩ => ?_)
  subst ex
  obtain rfl : u = Value.ref a := rx
  obtain ⟨t1, t2, _⟩ := isDX_at I1 d
  refine ⟨t1, t2, ?_⟩
  rw [m.trees]
  refine Calls.callWith_builtin rfl (Calls.evalArgs_plain (Calls.spliced_cons (thn (he.run pins s1 σ H1 _ I1 q1) fun iv s2 ⟨y, H2, I2, ry, q2⟩ =>
    Calls.spliced_cons (thn (hf.run pins s2 σ H2 _ I2 q2) fun fv s3 ⟨z, H3, I3, rz, ov, g, q3⟩ => Calls.spliced_nil ?_))))
  exact d_get2E hu I3 g ry rz fun w' s4 I4 rw' => ⟨_, H3, I4, rw', q3⟩
theorem de_get2 (hu : X.A.units + 1 < cLine) (ho : DO X o td wd) (he : DE X e ty wk) (hf : DE X f tx wz) (m : M2 X o "get" apos e f cpos) : DE X (.Call (.Attribute o "get" apos) [e, f] [] cpos) (tDGet2E td ty tx) (wGet2 wd wk wz) :=
  ⟨pe_dget2E hu ho.pe he.pe hf.pe m, fun {sx H0 F0 F σ H η Q R} r hw k => ho.sem r hw fun d x F1 H1 q1 e1 o1 => by
    cases d <;> first | exact q1.elim | skip
    rename_i es
    have r1 := r.ext e1
    obtain ⟨a, rfl, hd⟩ := (o1.nw r1).dict r1.base.le
    refine ⟨a, rfl, ?_, he.sem r1 q1 fun kd y F2 H2 q2 e2 hy => hf.sem (r1.ext e2) q2 fun zd z F3 H3 q3 e3 hz => ?_⟩
    · rcases hd with ⟨kvs, rd, _⟩ | ⟨o1, kvs, rd, td, _⟩
      · exact .inl (.inl ⟨_, rd⟩)
      · exact .inr ⟨_, _, rd, td.mono r1.base.le⟩
    · have r3 := (r1.ext e2).ext e3
      obtain ⟨a', ov, e, _, g, rel⟩ := Nw.dgetE r3.base ((o1.mono (e2.sF.trans e3.sF)).nw r3) (hy.mono e3.sF) q3.1 q3.2.1
      cases e
      exact ⟨ov, g, (k.ext ((e1.trans e2).trans e3)).now r3.base q3.2.2 (rel.getD hz)⟩⟩
end
/-- d[k] = v -/
def rSetD : V → V → V → Hp → (Hp → Prop) → Prop := fun o i v H Q => ∃ a, o = .ref a ∧ DPutE H a i v Q
theorem set_dict {X : Cx} (hu : X.A.units + 1 < cLine) : PSet X rSetD := by
  intro pins s σ H o i v ov iv u Q I ro ri rv h
  obtain ⟨a, rfl, g⟩ := h
  obtain rfl : ov = Value.ref a := ro
  exact d_setItemE hu I g ri rv fun H' s4 q I4 => ⟨H', I4, q⟩
theorem PSet.or {X : Cx} {t t' : TSet} (h : PSet X t) (h' : PSet X t') : PSet X (fun o i v H Q => t o i v H Q ∨ t' o i v H Q) := by
  intro pins s σ H o i v ov iv u Q I ro ri rv q
  rcases q with q | q
  · exact h pins s σ H o i v ov iv u Q I ro ri rv q
  · exact h' pins s σ H o i v ov iv u Q I ro ri rv q
def rSetA : TSet := fun o i v H Q => rSetL o i v H Q ∨ rSetD o i v H Q
theorem set_any {X : Cx} (hu : X.A.units + 1 < cLine) : PSet X rSetA := PSet.or set_list (set_dict hu)
def gSet : D → D → D → (D → Prop) → Prop
  | .list xs, .int k, v, Q => ∃ j, ixN xs.length k = some j ∧ Q (.list (xs.set j v))
  | .dict es, k, v, Q => keyOk k = true ∧ kindOk es k = true ∧ es.length < sizeLine ∧ Q (.dict (dPut es k v))
  | _, _, _, _ => False
theorem set_sem {K : PySem.W.Frag} {sx : Sx} {F H : Hp} {a : Addr} {y z : V} {d k v : D} {Q : D → Prop} {R : Hp → Prop} (b : Base sx F H) (ho : OwnAt K F H a d) (hy : Dt K F y k) (hz : Dt K F z v) (hg : gSet d k v Q)
    (kk : ∀ d' o', Q d' → OwnAt K F (upd H a o') a d' → R (upd H a o')) : rSetA (.ref a) y z H R := by
  cases d with
  | list xs =>
    obtain ⟨ys, h1, h2⟩ := ho
    cases k <;> first | exact hg.elim | skip
    obtain ⟨j, hj, q⟩ := hg
    cases hy
    exact .inl ⟨a, ys, _, j, rfl, rfl, h1, by rw [h2.length]; exact hj, kk _ _ q ⟨_, upd_same, h2.set hz j⟩⟩
  | dict es =>
    obtain ⟨g1, g2, g3, q⟩ := hg
    refine .inr ?_
    rcases ho with ⟨kvs, h1, h2⟩ | ⟨o1, kvs, h1, ht, h2⟩
    · rcases hy.keyAt g1 with ⟨i, rfl, rfl⟩ | ⟨is, c, rfl, rfl, hc⟩
      · exact ⟨a, rfl, .inl ⟨_, .inl ⟨kvs, i, h1, rfl, by rw [h2.length]; exact g3, rfl⟩, kk _ _ q (.inl ⟨_, upd_same, h2.put hz⟩)⟩⟩
      · obtain ⟨rfl, rfl⟩ := h2.kind g2
        exact ⟨a, rfl, .inr (.inr (.inl ⟨is, c, h1, rfl, hc.mono b.le, fun hs o' u ru ob => kk _ _ q (.inr ⟨o', _, upd_same, ⟨hs, _, ob, (show KTF F [] [] from .nil).put (kI is) hc ru⟩, .cons hz .nil⟩)⟩))⟩
    · rcases hy.keyAt g1 with ⟨i, rfl, rfl⟩ | ⟨is, c, rfl, rfl, hc⟩
      · obtain ⟨rfl, rfl⟩ := h2.kind g2
        exact ⟨a, rfl, .inr (.inr (.inr ⟨o1, i, h1, ht.mono b.le, rfl, kk _ _ q (.inl ⟨_, upd_same, .cons hz .nil⟩)⟩))⟩
      · obtain ⟨hs, xs, t1, t2⟩ := ht
        refine ⟨a, rfl, .inr (.inl ⟨o1, kvs, xs, is, c, h1, hs, t1, t2.mono b.le, rfl, hc.mono b.le, by rw [← t2.length, h2.length]; exact g3, fun o' u ru ob => kk _ _ q (.inr ⟨o', _, upd_same, ⟨hs, _, ob, t2.put (kI is) hc ru⟩, h2.put hz⟩)⟩)⟩
  | _ => exact ho.elim
/-- x[k] = v, x a slot with an object of its own -/
def wStore (i : Nat) (wk wv : WE) : WS := fun W η => match η[i]? with
  | some (.ow d) => wv η fun v => wk η fun k => gSet d k v fun d' => W.nx (η.set i (.ow d'))
  | _ => False
theorem sem_store {K : PySem.W.Frag} {i : Nat} {tk tv : TE} {wk wv : WE} (hk : SemE K tk wk) (hv : SemE K tv wv) : SemS K (tAsg tv (gSub (tVar i) tk rSetA)) (wStore i wk wv) := fun {sx H0 F0 F σ H η W R} r hw k => by
  unfold wStore at hw
  split at hw
  · rename_i d hi
    refine hv r hw fun v z F1 H1 q1 e1 hz => ?_
    have r1 := r.ext e1
    obtain ⟨sv, hs, a, rfl, ho⟩ := r1.val hi
    refine ⟨.ref a, hs, hk r1 q1 fun kd y F2 H2 q2 e2 hy => ?_⟩
    have r2 := r1.ext e2
    obtain ⟨sv', hs', a', e, ho', _⟩ := r2.val hi
    rw [hs] at hs'
    cases hs'
    cases e
    exact set_sem r2.base ho' hy (hz.mono e2.sF) q2 fun d' o' q' ho'' => k.nx _ _ _ _ q' (e1.sF.trans e2.sF) (r2.put hi hs ho'')
  · exact hw.elim
section
variable {X : Cx} {e i : Expr} {pos opos spos : Pos} {ti tv : TE} {wk wv : WE}
theorem ds_store (j : Nat) {x : Str} (hu : X.A.units + 1 < cLine) (hv : DE X e tv wv) (hk : DE X i ti wk) (hn : PE X (.Name x opos) (tVar j))
    (ha : ∀ v, assign (.Subscript (.Name x opos) i spos) X.env v = (do
      let ov ← holding [v] (eval (.Name x opos) X.env)
      let iv ← holding [v, ov] (eval i X.env)
      standAt spos
      holding [v, ov, iv] (setItem ov iv v)
      release [v, ov, iv] []) := by intros; rfl)
    (hs : swapsWithSole [.Subscript (.Name x opos) i spos] e pos.line X.env = pure false := by rfl) (hw : swappedStores [.Subscript (.Name x opos) i spos] e X.env = pure none := by rfl)
    (h1 : (assignEach [.Subscript (.Name x opos) i spos] X.env).map (·.2) = [assign (.Subscript (.Name x opos) i spos) X.env] := by rfl) :
    DS X (.Assign [.Subscript (.Name x opos) i spos] e pos) (tAsg tv (gSub (tVar j) ti rSetA)) (wStore j wk wv) :=
  ⟨ps_asg hv.pe (pg_sub hn hk.pe (set_any hu) ha) hs hw h1, sem_store hk.sem hv.sem⟩
end

/-! ### methods that change a slot's own list -/
/-- a method of a list that changes it -/
def MutSem (K : PySem.W.Frag) (r : V → List V → Hp → VK → Prop) (g : D → List D → (D → D → Prop) → Prop) : Prop :=
  ∀ {sx : Sx} {F H : Hp} {a : Addr} {vs : List V} {d : D} {ds : List D} {Q : D → D → Prop} {R : VK}, Base sx F H → OwnAt K F H a d → DtL K F vs ds → g d ds Q → (∀ d' y v o', Q d' y → OwnAt K F (upd H a o') a d' → Dt K F v y → R v (upd H a o')) → r (.ref a) vs H R
def gAppend : D → List D → (D → D → Prop) → Prop
  | .list xs, [y], Q => xs.length < sizeLine ∧ Q (.list (xs ++ [y])) .none
  | _, _, _ => False
theorem ms_append {K : PySem.W.Frag} : MutSem K rAppend gAppend := fun {sx F H a vs d ds Q R} b ho hv hg k => by
  cases d <;> first | exact hg.elim | skip
  cases hv with
  | nil => exact hg.elim
  | cons h1 ht =>
    cases ht with
    | cons _ _ => exact hg.elim
    | nil =>
      obtain ⟨xs, hH, hd⟩ := ho
      exact ⟨a, xs, _, rfl, rfl, hH, by rw [hd.length]; exact hg.1, k _ _ _ _ hg.2 ⟨_, upd_same, hd.append (.one h1)⟩ .non⟩
def gExtend : D → List D → (D → D → Prop) → Prop
  | .list xs, [.list ys], Q => xs.length + ys.length ≤ sizeLine ∧ Q (.list (xs ++ ys)) .none
  | _, _, _ => False
theorem ms_extend {K : PySem.W.Frag} : MutSem K rExtend gExtend := fun {sx F H a vs d ds Q R} b ho hv hg k => by
  cases d <;> first | exact hg.elim | skip
  cases hv with
  | nil => exact hg.elim
  | cons h1 ht =>
    cases ht with
    | cons _ _ => rename_i d1 _ _ _ _ _ _; cases d1 <;> exact hg.elim
    | nil =>
      rename_i d1
      cases d1 <;> first | exact hg.elim | skip
      obtain ⟨xs, hH, hd⟩ := ho
      cases h1 with
      | lst h2 h3 => exact ⟨a, _, xs, _, rfl, rfl, hH, b.le _ _ h2, by rw [hd.length, h3.length]; exact hg.1, k _ _ _ _ hg.2 ⟨_, upd_same, hd.append h3⟩ .non⟩
def gPop : D → List D → (D → D → Prop) → Prop
  | .list xs, [], Q => ∃ y, xs[xs.length - 1]? = some y ∧ Q (.list xs.dropLast) y
  | _, _, _ => False
theorem DtL.dropLast {K : PySem.W.Frag} {F : Hp} {vs : List V} {ds : List D} (h : DtL K F vs ds) : DtL K F vs.dropLast ds.dropLast := by
  rw [List.dropLast_eq_take, List.dropLast_eq_take, h.length]
  exact h.take _
theorem ms_pop {K : PySem.W.Frag} : MutSem K rPop gPop := fun {sx F H a vs d ds Q R} b ho hv hg k => by
  cases d <;> first | exact hg.elim | skip
  cases hv with
  | cons _ _ => exact hg.elim
  | nil =>
    obtain ⟨y, hy, q⟩ := hg
    obtain ⟨xs, hH, hd⟩ := ho
    obtain ⟨v, h1, h2⟩ := hd.get _ hy
    exact ⟨a, xs, v, rfl, rfl, hH, by rw [hd.length]; exact h1, k _ _ _ _ q ⟨_, upd_same, hd.dropLast⟩ h2⟩
/-- x.m(e) as a statement -/
def wMut (i : Nat) (g : D → List D → (D → D → Prop) → Prop) (wa : WA) : WS := fun W η => match η[i]? with
  | some (.ow d) => wa η fun ds => g d ds fun d' _ => W.nx (η.set i (.ow d'))
  | _ => False
theorem own_list {K : PySem.W.Frag} {F H : Hp} {a : Addr} {d : D} (h : OwnAt K F H a d) (hl : ∃ ds, d = .list ds) : tyV K "list" (.ref a) H := by
  obtain ⟨ds, rfl⟩ := hl
  obtain ⟨xs, h1, _⟩ := h
  exact .inl ⟨rfl, xs, SqL.of h1⟩
def IsLst : D → Bool
  | .list _ => true
  | _ => false
def wMutE (i : Nat) (g : D → List D → (D → D → Prop) → Prop) (wa : WA) (wg : WG) : WS := fun W η => match η[i]? with
  | some (.ow d) => IsLst d = true ∧ wa η fun ds => g d ds fun d' y => wg y (η.set i (.ow d')) W.nx
  | _ => False
theorem sem_mutE {K : PySem.W.Frag} {i : Nat} {r : V → List V → Hp → VK → Prop} {g : D → List D → (D → D → Prop) → Prop} {ta : TA} {wa : WA} {tg : TG} {wg : WG} {L : List Nat} (ms : MutSem K r g) (ha : SemB K ta wa) (hg : SemG K tg wg L) : SemS K (tAsg (tBM K "list" r (tVar i) ta) tg) (wMutE i g wa wg) := fun {sx H0 F0 F σ H η W R} rp hw k => by
  unfold wMutE at hw
  split at hw
  · rename_i d hi
    obtain ⟨sv, hs, a, rfl, ho, _⟩ := rp.val hi
    refine ⟨.ref a, hs, own_list ho (by cases d <;> first | exact ⟨_, rfl⟩ | (cases hw.1)), ha rp hw.2 fun ds vs F1 H1 q1 e1 hv => ?_⟩
    have r1 := rp.ext e1
    obtain ⟨sv', hs', a', e, ho', _⟩ := r1.val hi
    rw [hs] at hs'
    cases hs'
    cases e
    exact ms r1.base ho' hv q1 fun d' y v o' q' ho'' hy => hg (r1.put hi hs ho'') hy q' fun σ' η' q2 r2 _ => k.nx _ _ _ _ q2 e1.sF r2
  · exact hw.elim
def tgDrop : TG := fun _ σ H Q => Q σ H
theorem sem_drop {K : PySem.W.Frag} : SemG K tgDrop (fun _ η Q => Q η) [] := fun r h hw k => k _ _ hw r fun _ _ => rfl
section
variable {X : Cx} {e : Expr} {es : List Expr} {ta : TA} {wa : WA} {r : V → List V → Hp → VK → Prop} {g : D → List D → (D → D → Prop) → Prop} {name : Str} {apos cpos pos : Pos} {id : String} {o : Expr}
theorem ds_mut (i : Nat) (ms : MutSem X.K r g) (ha : DB X (e :: es) ta wa)
    (hp : PE X (.Call (.Attribute o name apos) (e :: es) [] cpos) (tBM X.K "list" r (tVar i) ta)) (hs : swapsWith (.Call (.Attribute o name apos) (e :: es) [] cpos) none pos.line X.env = pure false := by rfl) :
    DS X (.Expr (.Call (.Attribute o name apos) (e :: es) [] cpos) pos) (tAsg (tBM X.K "list" r (tVar i) ta) tgDrop) (wMutE i g wa fun _ η Q => Q η) :=
  ⟨ps_expr hp hs, sem_mutE ms ha.sem sem_drop⟩
end
end W2

set_option Elab.async false
set_option linter.all false
set_option maxRecDepth 100000
/-! W2G: subscripts, slices, built-in calls, what a def promises, calls of defs. -/
namespace W2
open PySem PySem.Spec PyProof.Rows L2

/-! ### a list's, a tuple's, a text's item -/
def gIx : D → D → (D → Prop) → Prop
  | .list ds, .int i, Q => ∃ d, atI ds i = some d ∧ Q d
  | .tuple ds, .int i, Q => ∃ d, atI ds i = some d ∧ Q d
  | .str z, .int i, Q => z.length ≤ sizeLine ∧ ∃ c, atI z.cps.toList i = some c ∧ Q (.str ⟨#[c]⟩)
  | _, _, _ => False
theorem DtL.atI {K : PySem.W.Frag} {F : Hp} {vs : List V} {ds : List D} (h : DtL K F vs ds) {i : Int} {d : D} (e : L2.atI ds i = some d) : ∃ v, L2.atI vs i = some v ∧ Dt K F v d := by
  unfold L2.atI at e ⊢
  rw [h.length]
  cases q : ixN ds.length i with
  | none => rw [q] at e; cases e
  | some j =>
    rw [q] at e
    exact h.get j e
theorem rs_ix {K : PySem.W.Frag} : RSem K (rIx K) gIx := fun {sx F H x y dx dy Q R} b hx hy hg k => by
  cases dx <;> cases dy <;> first | exact hg.elim | skip
  · cases hx.str; cases hy.int
    obtain ⟨hl, c, e, q⟩ := hg
    exact .inr (.inr ⟨_, _, c, rfl, rfl, hl, e, k.now b q (.str _)⟩)
  · obtain ⟨a, xs, rfl, h1, h2⟩ := hx.list b.le
    cases hy.int
    obtain ⟨d, e, q⟩ := hg
    obtain ⟨v, e', hv⟩ := h2.atI e
    exact .inl ⟨a, xs, _, v, rfl, rfl, SqL.of h1, e', k.now b q hv⟩
  · obtain ⟨a, xs, rfl, h1, h2⟩ := hx.tupleH b.le
    cases hy.int
    obtain ⟨d, e, q⟩ := hg
    obtain ⟨v, e', hv⟩ := h2.atI e
    exact .inr (.inl ⟨a, xs, _, v, rfl, rfl, h1, e', k.now b q hv⟩)
section
variable {X : Cx} {a b : Expr} {ta tb : TE} {wa wb : WE} {pos : Pos}
theorem de_ix (hs : PlainIx b) (ha : DO X a ta wa) (hb : DO X b tb wb) : DE X (.Subscript a b pos) (tOp (rIx X.K) ta tb) (w2 gIx wa wb) := ⟨pe_ix ix_seq ha.pe hb.pe hs, sem_op rs_ix ha.sem hb.sem⟩
end
/-- d[k] -/
def tDGetE (td ty : TE) : TE := fun σ H Q => td σ H fun x H1 => ty σ H1 fun y H2 => ∃ a v, x = .ref a ∧ DGetE H2 a y (some v) ∧ Q v H2
def gIxD : D → D → (D → Prop) → Prop
  | .dict es, k, Q => keyOk k = true ∧ kindOk es k = true ∧ ∃ d, dGet es k = some d ∧ Q d
  | _, _, _ => False
section
variable {X : Cx} {o i : Expr} {pos : Pos} {td ty : TE} {wd wk : WE}
theorem dict_typeIsE {pins : List (Addr × Obj)} {σ : L2.St} {H : Hp} {s : Shared} {a : Addr} {y : V} {r : Option V} (I : Inv X pins σ H s) (g : DGetE H a y r) : s.TypeIs (.ref a) "dict" := by
  rcases g with g | ⟨_, _, _, _, rd, td, _⟩ | ⟨_, em, _⟩
  · exact dict_typeIs I g
  · obtain ⟨_, _, _, _, dd⟩ := td.of (P := X.prog) (w := X.w) rd I.hok
    exact dd.typeIs
  · obtain ⟨_, dd, _⟩ := empty_both I.hok em
    exact dd.typeIs
theorem pe_dgetE (hu : X.A.units + 1 < cLine) (ho : PE X o td) (hi : PE X i ty) (hs : NoSl i) : PE X (.Subscript o i pos) (tDGetE td ty) := by
  refine ⟨fun pins s σ H Q I h => ?_⟩
  refine subD_of PySem.F.slot_dict_getitem.lookup hs (thn (ho.run pins s σ H _ I h) fun u s1 ⟨x, H1, I1, rx, q1⟩ => thn (hi.run pins s1 σ H1 _ I1 q1) fun iv s2 ⟨y, H2, I2, ry, a, v, ex, g, q2⟩ => ?_)
  subst ex
  obtain rfl : u = Value.ref a := rx
  exact ⟨dict_typeIsE I2 g, d_getItemE hu I2 g ry fun w' s3 I3 rw' => ⟨v, H2, I3, rw', q2⟩⟩
def wIxD (wd wk : WE) : WE := fun η Q => wd η fun d => wk η fun k => gIxD d k Q
theorem de_ixD (hu : X.A.units + 1 < cLine) (hs : NoSl i) (ho : DO X o td wd) (hi : DE X i ty wk) : DE X (.Subscript o i pos) (tDGetE td ty) (wIxD wd wk) :=
  ⟨pe_dgetE hu ho.pe hi.pe hs, fun {sx H0 F0 F σ H η Q R} r hw k => ho.sem r hw fun d x F1 H1 q1 e1 o1 => hi.sem (r.ext e1) q1 fun kd y F2 H2 q2 e2 hy => by
    cases d <;> first | exact q2.elim | skip
    have r2 := (r.ext e1).ext e2
    obtain ⟨g1, g2, z, g3, q⟩ := q2
    obtain ⟨a, ov, rfl, _, g, rel⟩ := Nw.dgetE r2.base ((o1.mono e2.sF).nw r2) hy g1 g2
    rw [g3] at rel
    obtain ⟨v, rfl, hv⟩ := rel.some
    exact ⟨a, v, rfl, g, (k.ext (e1.trans e2)).now r2.base q hv⟩⟩
/-- either: by what the value is -/
theorem pe_or {X : Cx} {e : Expr} {t t' : TE} (h : PE X e t) (h' : PE X e t') : PE X e (fun σ H Q => t σ H Q ∨ t' σ H Q) := ⟨fun pins s σ H Q I hw => by
  rcases hw with hw | hw
  · exact h.run pins s σ H Q I hw
  · exact h'.run pins s σ H Q I hw⟩
/-- k in d, k not in d -/
def rDIn (neg : Bool) : R2 := fun y x H Q => ∃ a o, x = .ref a ∧ DGetE H a y o ∧ Q (.bl (if neg then !o.isSome else o.isSome)) H
theorem op_dIn (hu : X.A.units + 1 < cLine) : OpR X (compareOp .In) (rDIn false) := by
  intro pins s σ H y x v u Q I ry rx h
  obtain ⟨a, o, rfl, g, q⟩ := h
  obtain rfl : u = Value.ref a := rx
  exact d_inE hu I g ry fun s' I' => ⟨.bl _, H, I', rfl, q⟩
theorem op_dNotIn (hu : X.A.units + 1 < cLine) : OpR X (compareOp .NotIn) (rDIn true) := by
  intro pins s σ H y x v u Q I ry rx h
  obtain ⟨a, o, rfl, g, q⟩ := h
  obtain rfl : u = Value.ref a := rx
  exact d_notInE hu I g ry fun s' I' => ⟨.bl _, H, I', rfl, q⟩
end
/-- in, not in: a list, a tuple, a dict -/
def rInT (K : PySem.W.Frag) (neg : Bool) : R2 := fun x y H Q => ∃ d ds, Dp K H x d ∧ Dp K H y (.tuple ds) ∧ SeqAt.shaped d = true ∧ SeqAt.shaped (.tuple ds) = true ∧ Q (.bl (if neg then !ds.any (fun z => PyData.eqv z d) else ds.any fun z => PyData.eqv z d)) H
theorem op_inTup {X : Cx} (hu : X.A.units + 65 < cLine) : OpR X (compareOp .In) (rInT X.K false) := fun pins s σ H x y v u Q I rx ry h => by
  obtain ⟨d, ds, hd, he, sd, se, q⟩ := h
  obtain ⟨_, r1⟩ := Dp.reads I d x v hd rx
  obtain ⟨_, r2⟩ := Dp.reads I _ y u he ry
  exact SeqAt.in_tuple_reads r2 r1 (SeqAt.canLay_of_shaped se) (SeqAt.canLay_of_shaped sd) (PyProof.Rows.room_in_shaped sd hu) ⟨.bl _, H, I, rfl, q⟩
theorem op_notInTup {X : Cx} (hu : X.A.units + 65 < cLine) : OpR X (compareOp .NotIn) (rInT X.K true) := fun pins s σ H x y v u Q I rx ry h => by
  obtain ⟨d, ds, hd, he, sd, se, q⟩ := h
  obtain ⟨_, r1⟩ := Dp.reads I d x v hd rx
  obtain ⟨_, r2⟩ := Dp.reads I _ y u he ry
  exact SeqAt.notIn_tuple_reads r2 r1 (SeqAt.canLay_of_shaped se) (SeqAt.canLay_of_shaped sd) (PyProof.Rows.room_in_shaped sd hu) ⟨.bl _, H, I, rfl, q⟩
def rInA (K : PySem.W.Frag) : R2 := fun x y H Q => rInD K x y H Q ∨ rInT K false x y H Q ∨ rDIn false x y H Q
def rNotInA (K : PySem.W.Frag) : R2 := fun x y H Q => rNotInD K x y H Q ∨ rInT K true x y H Q ∨ rDIn true x y H Q
theorem op_inA {X : Cx} (hu : X.A.units + 65 < cLine) : OpR X (compareOp .In) (rInA X.K) := OpR.or (op_inD hu) (OpR.or (op_inTup hu) (op_dIn (by omega)))
theorem op_notInA {X : Cx} (hu : X.A.units + 65 < cLine) : OpR X (compareOp .NotIn) (rNotInA X.K) := OpR.or (op_notInD hu) (OpR.or (op_notInTup hu) (op_dNotIn (by omega)))
def gInA (neg : Bool) : D → D → (D → Prop) → Prop
  | x, .list ds, Q => SeqAt.shaped x = true ∧ SeqAt.shaped (.list ds) = true ∧ Q (.bool (if neg then !ds.any (fun z => PyData.eqv z x) else ds.any fun z => PyData.eqv z x))
  | x, .tuple ds, Q => SeqAt.shaped x = true ∧ SeqAt.shaped (.tuple ds) = true ∧ Q (.bool (if neg then !ds.any (fun z => PyData.eqv z x) else ds.any fun z => PyData.eqv z x))
  | x, .dict es, Q => keyOk x = true ∧ kindOk es x = true ∧ Q (.bool (if neg then !(dGet es x).isSome else (dGet es x).isSome))
  | _, _, _ => False
/-- a two-place reading whose first place is frozen -/
def RSem1 (K : PySem.W.Frag) (r : R2) (g : D → D → (D → Prop) → Prop) : Prop :=
  ∀ {sx : Sx} {F H : Hp} {x y : V} {dx dy : D} {Q : D → Prop} {R : VK}, Base sx F H → Dt K F x dx → Nw K F H y dy → g dx dy Q → Cont K sx F H Q R → r x y H R
theorem sem_op1 {K : PySem.W.Frag} {r : R2} {g : D → D → (D → Prop) → Prop} {ta tb : TE} {wa wb : WE} (hs : RSem1 K r g) (ha : SemE K ta wa) (hb : SemO K tb wb) : SemE K (tOp r ta tb) (w2 g wa wb) := fun {sx H0 F0 F σ H η Q R} rp hw k =>
  ha rp hw fun dx x F1 H1 q1 e1 o1 => hb (rp.ext e1) q1 fun dy y F2 H2 q2 e2 o2 =>
    let r2 := (rp.ext e1).ext e2
    hs r2.base (o1.mono e2.sF) (o2.nw r2) q2 (k.ext (e1.trans e2))
theorem rs_in {K : PySem.W.Frag} : RSem1 K (rInA K) (gInA false) := fun {sx F H x y dx dy Q R} b hx hy hg k => by
  cases dy <;> first | exact hg.elim | skip
  · obtain ⟨h1, h2, q⟩ := hg
    exact .inl ⟨_, _, hx.dp b.le (SeqAt.canLay_of_shaped h1), hy.dp b.le (SeqAt.canLay_of_shaped h2), h1, h2, k.now b q (.bl _)⟩
  · obtain ⟨h1, h2, q⟩ := hg
    exact .inr (.inl ⟨_, _, hx.dp b.le (SeqAt.canLay_of_shaped h1), hy.dp b.le (SeqAt.canLay_of_shaped h2), h1, h2, k.now b q (.bl _)⟩)
  · obtain ⟨h1, h2, q⟩ := hg
    obtain ⟨a, o, rfl, _, g, rel⟩ := Nw.dgetE b hy hx h1 h2
    refine .inr (.inr ⟨a, o, rfl, g, k.now b (d := .bool (dGet _ dx).isSome) q ?_⟩)
    rw [← rel.isSome]
    exact .bl _
theorem rs_notIn {K : PySem.W.Frag} : RSem1 K (rNotInA K) (gInA true) := fun {sx F H x y dx dy Q R} b hx hy hg k => by
  cases dy <;> first | exact hg.elim | skip
  · obtain ⟨h1, h2, q⟩ := hg
    exact .inl ⟨_, _, hx.dp b.le (SeqAt.canLay_of_shaped h1), hy.dp b.le (SeqAt.canLay_of_shaped h2), h1, h2, k.now b q (.bl _)⟩
  · obtain ⟨h1, h2, q⟩ := hg
    exact .inr (.inl ⟨_, _, hx.dp b.le (SeqAt.canLay_of_shaped h1), hy.dp b.le (SeqAt.canLay_of_shaped h2), h1, h2, k.now b q (.bl _)⟩)
  · obtain ⟨h1, h2, q⟩ := hg
    obtain ⟨a, o, rfl, _, g, rel⟩ := Nw.dgetE b hy hx h1 h2
    refine .inr (.inr ⟨a, o, rfl, g, k.now b (d := .bool (!(dGet _ dx).isSome)) q ?_⟩)
    rw [← rel.isSome]
    exact .bl _
section
variable {X : Cx} {a b : Expr} {ta tb : TE} {wa wb : WE} {pos : Pos}
theorem de_cmp1 {op : CmpOp} {r : R2} {g : D → D → (D → Prop) → Prop} (ho : OpR X (compareOp op) r) (hs : RSem1 X.K r g) (hm : behindInMarks op b = false) (ha : DE X a ta wa) (hb : DO X b tb wb) : DE X (.Compare a [op] [b] pos) (tOp r ta tb) (w2 g wa wb) := ⟨pe_cmpR ho ha.pe hb.pe hm, sem_op1 hs ha.sem hb.sem⟩
theorem dt_cmp1 {op : CmpOp} {r : R2} {g : D → D → (D → Prop) → Prop} (ho : OpR X (compareOp op) r) (hs : RSem1 X.K r g) (hm : behindInMarks op b = false) (ha : DE X a ta wa) (hb : DO X b tb wb) : DTs X (.Compare a [op] [b] pos) (tTest (tOp r ta tb)) (wTrB (w2 g wa wb)) :=
  ⟨pt_cmpR ho ha.pe hb.pe hm, sem_testB (sem_op1 hs ha.sem hb.sem)⟩
end

/-! ### slices -/
def cutD (ds : List D) (lo hi : Option Int) : List D := (ds.drop (HT.sIx ds.length 0 lo)).take (HT.sIx ds.length ds.length hi - HT.sIx ds.length 0 lo)
theorem DtL.cut {K : PySem.W.Frag} {F : Hp} {vs : List V} {ds : List D} (h : DtL K F vs ds) (lo hi : Option Int) : DtL K F (cutV vs lo hi) (cutD ds lo hi) := by
  unfold cutV cutD
  rw [h.length]
  exact (h.drop _).take _
abbrev WO := En → (Option Int → Prop) → Prop
def SemPO (K : PySem.W.Frag) (t : TO) (w : WO) : Prop := ∀ {sx : Sx} {H0 F0 F : Hp} {σ : L2.St} {H : Hp} {η : En} {Q : Option Int → Prop} {R : Option Int → Hp → Prop}, Rep K sx H0 F0 F σ H η → w η Q → (∀ b F' H', Q b → Ext2 sx F H F' H' → R b H') → t σ H R
structure DPO (X : Cx) (e : Option Expr) (t : TO) (w : WO) : Prop where
  po : PO X e t
  sem : SemPO X.K t w
def wNoPart : WO := fun _ Q => Q none
def wPart (we : WE) : WO := fun η Q => we η fun d => match d with
  | .int i => Q (some i)
  | _ => False
def gSl (d : D) (lo hi : Option Int) (Q : D → Prop) : Prop := match d with
  | .list ds => Q (.list (cutD ds lo hi))
  | .tuple ds => Q (.tuple (cutD ds lo hi))
  | _ => False
def wSl (we : WE) (wl wh : WO) : WE := fun η Q => we η fun d => wl η fun lo => wh η fun hi => gSl d lo hi Q
def gSlL (d : D) (lo hi : Option Int) (Q : D → Prop) : Prop := match d with
  | .list ds => Q (.list (cutD ds lo hi))
  | _ => False
def wSlL (we : WE) (wl wh : WO) : WE := fun η Q => we η fun d => wl η fun lo => wh η fun hi => gSlL d lo hi Q
def rSlB (K : PySem.W.Frag) : V → Option Int → Option Int → Hp → VK → Prop := fun x lo hi H Q => rSlL K x lo hi H Q ∨ rSlN K x lo hi H Q
section
variable {X : Cx} {e : Expr} {lo hi : Option Expr} {te : TE} {we : WE} {tl th : TO} {wl wh : WO} {pos p2 : Pos}
theorem dpo_none : DPO X none tNoPart wNoPart := ⟨po_none, fun r hw k => k none _ _ hw (.refl r.base)⟩
theorem dpo_some (h : DO X e te we) : DPO X (some e) (tPart te) (wPart we) := ⟨po_some h.pe, fun {sx H0 F0 F σ H η Q R} r hw k => h.sem r hw fun d v F1 H1 q e o => by
  cases d <;> first | exact q.elim | skip
  cases (o.nw (r.ext e)).int
  exact ⟨_, rfl, k _ F1 H1 q e⟩⟩
theorem DtL.cut_all {K : PySem.W.Frag} {F : Hp} {vs : List V} {ds : List D} (h : DtL K F vs ds) {lo hi : Option Int} (c : HT.sIx vs.length 0 lo = 0 ∧ HT.sIx vs.length vs.length hi = vs.length) : cutD ds lo hi = ds := by
  unfold cutD
  rw [← h.length, c.1, c.2, List.drop_zero, Nat.sub_zero, h.length, List.take_length]
theorem de_slice (he : DO X e te we) (hl : DPO X lo tl wl) (hh : DPO X hi th wh) : DE X (.Subscript e (.Slice lo hi none p2) pos) (tSl (rSlB X.K) te tl th) (wSl we wl wh) :=
  ⟨pe_slice (SlR.or sl_list sl_tupN) he.pe hl.po hh.po, fun {sx H0 F0 F σ H η Q R} r hw k => he.sem r hw fun d v F1 H1 q1 e1 o1 => hl.sem (r.ext e1) q1 fun l F2 H2 q2 e2 => hh.sem ((r.ext e1).ext e2) q2 fun u F3 H3 q3 e3 => by
    have r3 := ((r.ext e1).ext e2).ext e3
    have k3 := k.ext ((e1.trans e2).trans e3)
    have nw := (o1.mono (e2.sF.trans e3.sF)).nw r3
    cases d <;> first | exact q3.elim | skip
    · obtain ⟨a, xs, rfl, h1, h2⟩ := nw.list r3.base.le
      exact .inl ⟨a, xs, rfl, SqL.of h1, k3.list.new r3.base q3 (h2.cut _ _)⟩
    · obtain ⟨a, xs, rfl, h1, h2⟩ := nw.tuple
      refine .inr ⟨a, xs, rfl, (h1.mono r3.base.le).sq, fun c => ?_, fun _ => k3.tup r3.base q3 (h2.cut _ _)⟩
      have q3' : Q (.tuple _) := q3
      rw [h2.cut_all c] at q3'
      exact k3.now r3.base q3' (.tup h1 h2)⟩
theorem dl_slice (he : DO X e te we) (hl : DPO X lo tl wl) (hh : DPO X hi th wh) : DL X (.Subscript e (.Slice lo hi none p2) pos) (tSl (rSlL X.K) te tl th) (wSlL we wl wh) :=
  ⟨pe_slice sl_list he.pe hl.po hh.po, fun {sx H0 F0 F σ H η Q R} r hw k => he.sem r hw fun d v F1 H1 q1 e1 o1 => hl.sem (r.ext e1) q1 fun l F2 H2 q2 e2 => hh.sem ((r.ext e1).ext e2) q2 fun u F3 H3 q3 e3 => by
    have r3 := ((r.ext e1).ext e2).ext e3
    have k3 := k.ext ((e1.trans e2).trans e3)
    have nw := (o1.mono (e2.sF.trans e3.sF)).nw r3
    cases d <;> first | exact q3.elim | skip
    obtain ⟨a, xs, rfl, h1, h2⟩ := nw.list r3.base.le
    exact ⟨a, xs, rfl, SqL.of h1, k3.new r3.base q3 (h2.cut _ _)⟩⟩
/-- xs[::-1] of a list -/
def wRevL (we : WE) : WE := fun η Q => we η fun d => match d with
  | .list ds => Q (.list ds.reverse)
  | _ => False
theorem dl_rev {k : Nat} {p1 p3 p4 : Pos} (he : DO X e te we) : DL X (.Subscript e (.Slice none none (some (.UnaryOp .USub (.Constant (.int 1) k p1) p2)) p3) pos) (tRevL X.K te) (wRevL we) :=
  ⟨pe_revL he.pe, fun {sx H0 F0 F σ H η Q R} r hw k => he.sem r hw fun d v F1 H1 q e o => by
    cases d <;> first | exact q.elim | skip
    obtain ⟨a, xs, rfl, h1, h2⟩ := (o.nw (r.ext e)).list (r.ext e).base.le
    exact ⟨a, xs, rfl, SqL.of h1, (k.ext e).new (r.ext e).base q h2.reverse⟩⟩
end

/-! ### calls of built-ins -/
def CSem (K : PySem.W.Frag) (r : List V → Hp → VK → Prop) (g : List D → (D → Prop) → Prop) : Prop :=
  ∀ {sx : Sx} {F H : Hp} {vs : List V} {ds : List D} {Q : D → Prop} {R : VK}, Base sx F H → Paired (Nw K F H) vs ds → g ds Q → Cont K sx F H Q R → r vs H R
def CSemL (K : PySem.W.Frag) (r : List V → Hp → VK → Prop) (g : List D → (D → Prop) → Prop) : Prop :=
  ∀ {sx : Sx} {F H : Hp} {vs : List V} {ds : List D} {Q : D → Prop} {R : VK}, Base sx F H → Paired (Nw K F H) vs ds → g ds Q → ContL K sx F H Q R → r vs H R
def wCall (g : List D → (D → Prop) → Prop) (wa : WA) : WE := fun η Q => wa η fun ds => g ds Q
section
variable {X : Cx} {e : Expr} {es : List Expr} {ta : TA} {wa : WA} {r : List V → Hp → VK → Prop} {g : List D → (D → Prop) → Prop} {x : Str} {p pos : Pos} {id T : String}
theorem OpL.nws {K : PySem.W.Frag} {sx : Sx} {H0 F0 F H : Hp} {σ : L2.St} {η : En} {vs : List V} {ds : List D} (h : OpL K F σ η vs ds) (r : Rep K sx H0 F0 F σ H η) : Paired (Nw K F H) vs ds := Paired.mapP h fun _ _ z => z.nw r
theorem sem_cb {K : PySem.W.Frag} (hs : CSem K r g) (ha : SemA K ta wa) : SemE K (tCB r ta) (wCall g wa) := fun {sx H0 F0 F σ H η Q R} rp hw k => ha rp hw fun ds vs F1 H1 q e o => hs (rp.ext e).base (o.nws (rp.ext e)) q (k.ext e)
theorem sem_cbL {K : PySem.W.Frag} (hs : CSemL K r g) (ha : SemA K ta wa) : SemL K (tCB r ta) (wCall g wa) := fun {sx H0 F0 F σ H η Q R} rp hw k => ha rp hw fun ds vs F1 H1 q e o => hs (rp.ext e).base (o.nws (rp.ext e)) q (k.ext e)
theorem de_callB (hc : CallR X (.builtin id) r) (hs : CSem X.K r g) (hv : bootBuiltins x = some (.builtin id)) (hg : Gl X x) (hm : X.mg x = none) (ha : DA X (e :: es) ta wa) (hn : x ≠ "__name__" := by decide) (hdb : (x == ("__debug__" : Str)) = false := by decide)
    (he : starEach (e :: es) X.env = (false, eval e X.env) :: starEach es X.env := by rfl) (hpl : (backTo pos (starEach es X.env)).any (·.1) = false := by rfl) : DE X (.Call (.Name x p) (e :: es) [] pos) (tCB r ta) (wCall g wa) :=
  ⟨pe_callB hc hg hm hv ha.pa hn hdb he hpl, sem_cb hs ha.sem⟩
theorem de_callT (hc : CallR X (.type T) r) (hs : CSem X.K r g) (hv : bootBuiltins x = some (.type T)) (hg : Gl X x) (hm : X.mg x = none) (ha : DA X (e :: es) ta wa) (hn : x ≠ "__name__" := by decide) (hdb : (x == ("__debug__" : Str)) = false := by decide)
    (he : starEach (e :: es) X.env = (false, eval e X.env) :: starEach es X.env := by rfl) (hpl : (backTo pos (starEach es X.env)).any (·.1) = false := by rfl) : DE X (.Call (.Name x p) (e :: es) [] pos) (tCB r ta) (wCall g wa) :=
  ⟨pe_callTy hc hg hm hv ha.pa hn hdb he hpl, sem_cb hs ha.sem⟩
theorem dl_callB (hc : CallR X (.builtin id) r) (hs : CSemL X.K r g) (hv : bootBuiltins x = some (.builtin id)) (hg : Gl X x) (hm : X.mg x = none) (ha : DA X (e :: es) ta wa) (hn : x ≠ "__name__" := by decide) (hdb : (x == ("__debug__" : Str)) = false := by decide)
    (he : starEach (e :: es) X.env = (false, eval e X.env) :: starEach es X.env := by rfl) (hpl : (backTo pos (starEach es X.env)).any (·.1) = false := by rfl) : DL X (.Call (.Name x p) (e :: es) [] pos) (tCB r ta) (wCall g wa) :=
  ⟨pe_callB hc hg hm hv ha.pa hn hdb he hpl, sem_cbL hs ha.sem⟩
theorem dl_callT (hc : CallR X (.type T) r) (hs : CSemL X.K r g) (hv : bootBuiltins x = some (.type T)) (hg : Gl X x) (hm : X.mg x = none) (ha : DA X (e :: es) ta wa) (hn : x ≠ "__name__" := by decide) (hdb : (x == ("__debug__" : Str)) = false := by decide)
    (he : starEach (e :: es) X.env = (false, eval e X.env) :: starEach es X.env := by rfl) (hpl : (backTo pos (starEach es X.env)).any (·.1) = false := by rfl) : DL X (.Call (.Name x p) (e :: es) [] pos) (tCB r ta) (wCall g wa) :=
  ⟨pe_callTy hc hg hm hv ha.pa hn hdb he hpl, sem_cbL hs ha.sem⟩
end
theorem Nws.one {K : PySem.W.Frag} {F H : Hp} {vs : List V} {d : D} (h : Paired (Nw K F H) vs [d]) : ∃ v, vs = [v] ∧ Nw K F H v d := by
  cases h with
  | cons h1 h2 => cases h2; exact ⟨_, rfl, h1⟩
theorem Nws.two {K : PySem.W.Frag} {F H : Hp} {vs : List V} {d e : D} (h : Paired (Nw K F H) vs [d, e]) : ∃ v w, vs = [v, w] ∧ Nw K F H v d ∧ Nw K F H w e := by
  cases h with
  | cons h1 h2 =>
    obtain ⟨w, rfl, h3⟩ := Nws.one h2
    exact ⟨_, w, rfl, h1, h3⟩
/-- len -/
def gLen : List D → (D → Prop) → Prop
  | [.list ds], Q => Q (.int ds.length)
  | [.tuple ds], Q => Q (.int ds.length)
  | [.str z], Q => z.length ≤ sizeLine ∧ Q (.int z.length)
  | _, _ => False
def rLenA (K : PySem.W.Frag) : List V → Hp → VK → Prop := fun xs H Q => (∃ p ys, xs = [.ref p] ∧ (SqL K H p ys ∨ SqT K H p ys) ∧ Q (.int ys.length) H) ∨ ∃ z, xs = [.str z] ∧ z.length ≤ sizeLine ∧ Q (.int z.length) H
theorem cr_len {X : Cx} : CallR X (.builtin "len") (rLenA X.K) := CallR.or call_len_seq call_len_str
theorem cs_len {K : PySem.W.Frag} : CSem K (rLenA K) gLen := fun {sx F H vs ds Q R} b h hg k => by
  unfold gLen at hg
  split at hg
  · obtain ⟨v, rfl, h1⟩ := Nws.one h
    obtain ⟨a, xs, rfl, h2, h3⟩ := h1.list b.le
    refine .inl ⟨a, xs, rfl, .inl (SqL.of h2), ?_⟩
    rw [h3.length]
    exact k.now b hg (.int _)
  · obtain ⟨v, rfl, h1⟩ := Nws.one h
    obtain ⟨a, xs, rfl, h2, h3⟩ := h1.tupleH b.le
    refine .inl ⟨a, xs, rfl, .inr h2, ?_⟩
    rw [h3.length]
    exact k.now b hg (.int _)
  · obtain ⟨v, rfl, h1⟩ := Nws.one h
    cases h1.str
    exact .inr ⟨_, rfl, hg.1, k.now b hg.2 (.int _)⟩
  · exact hg.elim
/-- tuple(x), list(x): of a list or a tuple -/
def gTuple : List D → (D → Prop) → Prop
  | [.list ds], Q => Q (.tuple ds)
  | [.tuple ds], Q => Q (.tuple ds)
  | _, _ => False
def gList : List D → (D → Prop) → Prop
  | [.list ds], Q => Q (.list ds)
  | [.tuple ds], Q => Q (.list ds)
  | _, _ => False
theorem cs_tuple {K : PySem.W.Frag} : CSem K (rTupN K) gTuple := fun {sx F H vs ds Q R} b h hg k => by
  unfold gTuple at hg
  split at hg
  · obtain ⟨v, rfl, h1⟩ := Nws.one h
    obtain ⟨a, xs, rfl, h2, h3⟩ := h1.list b.le
    exact ⟨a, xs, rfl, .inl ⟨SqL.of h2, k.tup b hg h3⟩⟩
  · obtain ⟨v, rfl, h1⟩ := Nws.one h
    obtain ⟨a, xs, rfl, h2, h3⟩ := h1.tuple
    exact ⟨a, xs, rfl, .inr ⟨(h2.mono b.le).sq, k.now b hg (.tup h2 h3)⟩⟩
  · exact hg.elim
theorem cs_list {K : PySem.W.Frag} : CSemL K (fun xs H Q => ∃ p ys, xs = [.ref p] ∧ (SqL K H p ys ∨ SqT K H p ys) ∧ ∀ l, H l = none → Q (.ref l) (upd H l (.lst ys))) gList := fun {sx F H vs ds Q R} b h hg k => by
  unfold gList at hg
  split at hg
  · obtain ⟨v, rfl, h1⟩ := Nws.one h
    obtain ⟨a, xs, rfl, h2, h3⟩ := h1.list b.le
    exact ⟨a, xs, rfl, .inl (SqL.of h2), k.new b hg h3⟩
  · obtain ⟨v, rfl, h1⟩ := Nws.one h
    obtain ⟨a, xs, rfl, h2, h3⟩ := h1.tupleH b.le
    exact ⟨a, xs, rfl, .inr h2, k.new b hg h3⟩
  · exact hg.elim
/-- int(n), int(flag) -/
def gInt : List D → (D → Prop) → Prop
  | [.int i], Q => Q (.int i)
  | [.bool b], Q => Q (.int (if b then 1 else 0))
  | _, _ => False
theorem cs_int {K : PySem.W.Frag} : CSem K (fun xs H Q => (∃ i, xs = [.int i] ∧ Q (.int i) H) ∨ ∃ k, xs = [.bl k] ∧ Q (.int (if k then 1 else 0)) H) gInt := fun {sx F H vs ds Q R} b h hg k => by
  unfold gInt at hg
  split at hg
  · obtain ⟨v, rfl, h1⟩ := Nws.one h
    cases h1.int
    exact .inl ⟨_, rfl, k.now b hg (.int _)⟩
  · obtain ⟨v, rfl, h1⟩ := Nws.one h
    cases h1.bool
    exact .inr ⟨_, rfl, k.now b hg (.int _)⟩
  · exact hg.elim
def gAbs : List D → (D → Prop) → Prop
  | [.int i], Q => Q (.int (if i < 0 then -i else i))
  | _, _ => False
theorem cs_abs {K : PySem.W.Frag} : CSem K (fun xs H Q => ∃ i, xs = [.int i] ∧ Q (.int (if i < 0 then -i else i)) H) gAbs := fun {sx F H vs ds Q R} b h hg k => by
  unfold gAbs at hg
  split at hg
  · obtain ⟨v, rfl, h1⟩ := Nws.one h
    cases h1.int
    exact ⟨_, rfl, k.now b hg (.int _)⟩
  · exact hg.elim
def gMax2 : List D → (D → Prop) → Prop
  | [.int i, .int j], Q => Q (.int (if j > i then j else i))
  | _, _ => False
def gMin2 : List D → (D → Prop) → Prop
  | [.int i, .int j], Q => Q (.int (if j < i then j else i))
  | _, _ => False
theorem cs_max2 {K : PySem.W.Frag} : CSem K (fun xs H Q => ∃ i j, xs = [.int i, .int j] ∧ Q (.int (if j > i then j else i)) H) gMax2 := fun {sx F H vs ds Q R} b h hg k => by
  unfold gMax2 at hg
  split at hg
  · obtain ⟨v, w, rfl, h1, h2⟩ := Nws.two h
    cases h1.int; cases h2.int
    exact ⟨_, _, rfl, k.now b hg (.int _)⟩
  · exact hg.elim
theorem cs_min2 {K : PySem.W.Frag} : CSem K (fun xs H Q => ∃ i j, xs = [.int i, .int j] ∧ Q (.int (if j < i then j else i)) H) gMin2 := fun {sx F H vs ds Q R} b h hg k => by
  unfold gMin2 at hg
  split at hg
  · obtain ⟨v, w, rfl, h1, h2⟩ := Nws.two h
    cases h1.int; cases h2.int
    exact ⟨_, _, rfl, k.now b hg (.int _)⟩
  · exact hg.elim
end W2

set_option Elab.async false
set_option linter.all false
set_option maxRecDepth 100000
/-! W2H: what a def promises over data, and its calls. -/
namespace W2
open PySem PySem.Spec PyProof.Rows L2

/-- a def's promise, where no repr is under way -/
structure FnG (P : Program) (w : World) (K : PySem.W.Frag) (mg : Str → Option Value) (base : Heap) (k : Nat) (f : Addr) (fd : FuncData) (ps : List Str) (sp : Sp) : Prop where
  len : ∀ vs H Q E, sp vs H Q E → vs.length = ps.length
  run : ∀ (A : Around) (outer : List Env) (s : Shared) (H : Hp) (args : Args) (us : List Value) (vs : List V) (Q : VK), Room k A → A.guards = some [] → L2.Env0 P w K mg base A outer s H → BindsTo s fd args (ps.zip us) → Vals vs us → sp vs H Q E0 →
    codeAny (model P w) A (.call (.ref f) args) (CR CX0 outer P w H s Q E0) s
theorem FnG.mono {P : Program} {w : World} {K : PySem.W.Frag} {mg : Str → Option Value} {base : Heap} {j k : Nat} {f : Addr} {fd : FuncData} {ps : List Str} {sp : Sp} (F : FnG P w K mg base j f fd ps sp) (h : j ≤ k) : FnG P w K mg base k f fd ps sp :=
  ⟨F.len, fun A outer s H args us vs Q hr => F.run A outer s H args us vs Q (hr.mono h)⟩
theorem fnG_of {P : Program} {w : World} {K : PySem.W.Frag} {mg : Str → Option Value} {base : Heap} {k : Nat} {f : Addr} {x qual : Str} {st : Stmt} {fd : FuncData} {N ps : List Str} {sp : Sp} (F : Fun K x qual st f fd) (S : FnScope N ps (defScope st)) (len : ∀ vs H Q E, sp vs H Q E → vs.length = ps.length)
    (hbody : ∀ (cdv : Value) (A : Around) (outer : List Env) (s : Shared) (H : Hp) (vs : List V) (Q : VK), Room k (A.deeper (envOfC qual (defScope st) s.heap.objs.size f cdv)) → (A.deeper (envOfC qual (defScope st) s.heap.objs.size f cdv)).guards = some [] → sp vs H Q E0 →
      ∃ t, PSs (cxOf CX0 P w K mg base N qual (defScope st) f cdv A outer s H E0).nox (defBody st) t ∧ t { nx := fun _ H' => Q .non H', rt := Q } (L2.start N vs) H) : FnG P w K mg base (k + 1) f fd ps sp := by
  obtain ⟨oc, od, kV, doc, pm, an, cdv, ct, osl, rfl, lk, hcd⟩ := F.ex
  refine ⟨len, fun A outer s H args us vs Q hr hG e0 hb r hsp => ?_⟩
  have inK : K.In s.heap := e0.mod.kin.keeps fun b o e => (e0.bs b o e).1
  have hkind : ∀ y ∈ ps.zip us, (defScope st).names.lookup y.1 = some .local ∨ ((defScope st).names.lookup y.1 = some .cell ∧ ((cellsFrom (s.heap.objs.size + 1) (defScope st).names []).lookup y.1).isSome = true) := by
    rintro ⟨n, v⟩ hy
    rcases S.par n (List.of_mem_zip hy).1 with q | q
    · exact .inl q
    · exact .inr ⟨q, PySem.W.cellsFrom_some _ _ _ (.inl q)⟩
  refine codeAny_call_function hr.depth (inK _ _ lk) rfl S.co S.gen rfl (PySem.W.codeRec_of inK hcd) (hb _ _ _ _ (wpAny_newFunctionEnv_cells S.kind hkind fun env he s1 y => ?_))
  subst he
  refine ⟨(e0.mod.nolimit.keeps fun b o e => (e0.bs b o e).1).keeps y.toInCall.keep, codeAny_func ?_⟩
  obtain ⟨t, ht, hq⟩ := hbody cdv A outer s H vs Q (hr.deeper _) hG hsp
  have I : Inv (cxOf CX0 P w K mg base N qual (defScope st) f cdv A outer s H E0) [] (L2.start N vs) H s1 := inv_start S hr.hd e0 (len _ _ _ _ hsp) r y
  have out : ∀ {σ' : L2.St} {H' : Hp} {v : V} {u : Value} {s' : Shared}, Inv (cxOf CX0 P w K mg base N qual (defScope st) f cdv A outer s H E0) [] σ' H' s' → RelV v u → Q v H' → CE outer P w H s Q u s' :=
    fun J rv q => ⟨_, _, J.os, J.bare, J.base, J.hok, rv, q⟩
  refine wpAny_mono (ht.nox.run [] s1 (L2.start N vs) H _ I hq) (fun fl s' hs => ?_) fun e s' hs => hs
  cases fl with
  | ret u => obtain ⟨v, σ', H', J, rv, q⟩ := hs; exact out J rv q
  | next => obtain ⟨σ', H', J, q⟩ := hs; exact out (v := V.non) (u := Value.none) J rfl q
  | brk => obtain ⟨_, _, _, q⟩ := hs; exact q.elim
  | cont => obtain ⟨_, _, _, q⟩ := hs; exact q.elim
section
variable {X : Cx} {k : Nat} {f : Addr} {fd : FuncData} {ps : List Str} {sp : Sp} {x : Str} {p pos : Pos} {e : Expr} {es : List Expr} {t : TA}
theorem runG {pins : List (Addr × Obj)} {σ : L2.St} {H : Hp} {s : Shared} {Q : VK} {us : List Value} {vs : List V} (F : FnG X.prog X.w X.K X.mg X.base k f fd ps sp) (hr : Room k X.A) (hG : X.A.guards = some []) (hb : Binds X.K fd ps [])
    (I : Inv X pins σ H s) (r : Vals vs us) (h : sp vs H Q E0) : wpAny (model X.prog X.w) X.A (call (.ref f) us) (EP X pins σ Q) X.xe s := by
  have hl : us.length = ps.length := by rw [← r.length]; exact F.len _ _ _ _ h
  have hb' := hb s us I.kIn (by simpa using hl)
  rw [List.append_nil] at hb'
  refine wpAny_call (codeAny_mono (F.run X.A X.stack s H ⟨us, []⟩ us vs Q hr hG I.env0 hb' r h) fun q s' hq => ?_)
  cases q with
  | error e => exact False.elim hq
  | ok fl =>
    cases fl with
    | ret u => exact I.after hq
    | _ => exact False.elim hq
theorem pe_callG (F : FnG X.prog X.w X.K X.mg X.base k f fd ps sp) (hr : Room k X.A) (hG : X.A.guards = some []) (hg : Gl X x) (hm : X.mg x = some (.ref f)) (hk : PySem.W.keepIn X.K (.ref f) = true) (hb : Binds X.K fd ps [])
    (ha : PA X (e :: es) t) (hdb : (x == ("__debug__" : Str)) = false := by decide) (he : starEach (e :: es) X.env = (false, eval e X.env) :: starEach es X.env := by rfl) (hpl : (backTo pos (starEach es X.env)).any (·.1) = false := by rfl) :
    PE X (.Call (.Name x p) (e :: es) [] pos) (tCall sp [] E0 t) := ⟨fun pins s σ H Q I h =>
  wpAny_Call_Name_kw (ld_glob I hg hm (PySem.W.callWith_K (h₀ := X.base) I.ok.mod.kin hk (thn (ha.run pos pins s σ H _ I h) fun us s1 ⟨vs, H1, I1, r, q⟩ => ⟨I1.kIn, runG F hr hG hb I1 r (by rw [← List.append_nil vs]; exact q)⟩) he hpl) hdb)⟩
end

/-! ### promises over data -/
abbrev WF := List D → (D → Prop) → Prop
def spW (K : PySem.W.Frag) (n : Nat) (w : WF) : Sp := fun vs H Q _ => ∃ (F : Hp) (ds : List D) (P : D → Prop), Base none F H ∧ DtL K F vs ds ∧ ds.length = n ∧ w ds P ∧ Cont K none F H P Q
/-- the first argument is the source -/
def spS (K : PySem.W.Frag) (n : Nat) (w : WF) : Sp := fun vs H Q _ => ∃ (a b : Addr) (vs' : List V) (F : Hp) (ds : List D) (P : D → Prop), vs = .ref a :: vs' ∧ Base (some (a, b)) F H ∧ DtL K F vs' ds ∧ ds.length = n ∧ w ds P ∧ Cont K (some (a, b)) F H P Q
def startE (N : List Str) (ds : List Slot) : En := ds ++ List.replicate (N.length - ds.length) .un
theorem rep_start {K : PySem.W.Frag} {F H : Hp} {N : List Str} {vs : List V} {ds : List D} (b : Base none F H) (h : DtL K F vs ds) : Rep K none H F F (L2.start N vs) H (startE N (ds.map .fz)) where
  base := b
  s0 := fun _ _ q _ => q
  f0 := Same.refl F
  fr := fun _ _ q => .inl q
  len := by
    unfold L2.start startE
    simp only [List.length_append, List.length_map, List.length_replicate, h.length]
  sl := fun i s v h1 h2 => by
    unfold startE at h1
    unfold L2.start at h2
    by_cases hi : i < ds.length
    · rw [List.getElem?_append_left (by simpa using hi), List.getElem?_map] at h1
      rw [List.getElem?_append_left (by simpa [h.length] using hi), List.getElem?_map] at h2
      cases q : ds[i]? with
      | none => rw [q] at h1; cases h1
      | some d =>
        rw [q] at h1
        cases h1
        obtain ⟨x, hx, hd⟩ := h.get i q
        rw [hx] at h2
        cases h2
        exact ⟨x, rfl, hd⟩
    · rw [List.getElem?_append_right (by simpa using hi), List.getElem?_replicate] at h1
      split at h1
      · cases h1; trivial
      · cases h1
  sep := fun i j d e a h1 _ _ _ => by
    exfalso
    unfold startE at h1
    by_cases hi : i < ds.length
    · rw [List.getElem?_append_left (by simpa using hi), List.getElem?_map] at h1
      cases q : ds[i]? with
      | none => rw [q] at h1; cases h1
      | some d => rw [q] at h1; cases h1
    · rw [List.getElem?_append_right (by simpa using hi), List.getElem?_replicate] at h1
      split at h1
      · cases h1
      · cases h1
theorem rep_startS {K : PySem.W.Frag} {F H : Hp} {N : List Str} {a b : Addr} {vs : List V} {ds : List D} (bs : Base (some (a, b)) F H) (h : DtL K F vs ds) : Rep K (some (a, b)) H F F (L2.start N (.ref a :: vs)) H (startE N (.src :: ds.map .fz)) where
  base := bs
  s0 := fun _ _ q _ => q
  f0 := Same.refl F
  fr := fun _ _ q => .inl q
  len := by
    unfold L2.start startE
    simp only [List.length_append, List.length_map, List.length_replicate, List.length_cons, h.length]
  sl := fun i s v h1 h2 => by
    unfold startE at h1
    unfold L2.start at h2
    cases i with
    | zero =>
      simp at h1 h2
      subst h1 h2
      exact ⟨a, b, rfl, rfl⟩
    | succ i =>
      by_cases hi : i < ds.length
      · rw [List.getElem?_append_left (by simpa using hi), List.getElem?_cons_succ, List.getElem?_map] at h1
        rw [List.getElem?_append_left (by simpa [h.length] using hi), List.map_cons, List.getElem?_cons_succ, List.getElem?_map] at h2
        cases q : ds[i]? with
        | none => rw [q] at h1; cases h1
        | some d =>
          rw [q] at h1
          cases h1
          obtain ⟨x, hx, hd⟩ := h.get i q
          rw [hx] at h2
          cases h2
          exact ⟨x, rfl, hd⟩
      · rw [List.getElem?_append_right (by simpa using hi), List.getElem?_replicate] at h1
        split at h1
        · cases h1; trivial
        · cases h1
  sep := fun i j d e a h1 _ _ _ => by
    exfalso
    unfold startE at h1
    cases i with
    | zero => simp at h1
    | succ i =>
      by_cases hi : i < ds.length
      · rw [List.getElem?_append_left (by simpa using hi), List.getElem?_cons_succ, List.getElem?_map] at h1
        cases q : ds[i]? with
        | none => rw [q] at h1; cases h1
        | some d => rw [q] at h1; cases h1
      · rw [List.getElem?_append_right (by simpa using hi), List.getElem?_replicate] at h1
        split at h1
        · cases h1
        · cases h1
/-- A DEF WITHOUT THE SOURCE keeps its promise: its body's reading over data, and that it does what w says -/
theorem fn_pure {P : Program} {w : World} {K : PySem.W.Frag} {mg : Str → Option Value} {base : Heap} {k : Nat} {f : Addr} {x qual : Str} {st : Stmt} {fd : FuncData} {N ps : List Str} {wf : WF} {wb : WS} (F : Fun K x qual st f fd) (S : FnScope N ps (defScope st))
    (hbody : ∀ (cdv : Value) (A : Around) (outer : List Env) (s : Shared) (H : Hp), Room k (A.deeper (envOfC qual (defScope st) s.heap.objs.size f cdv)) → (A.deeper (envOfC qual (defScope st) s.heap.objs.size f cdv)).guards = some [] →
      ∃ t, DSs (cxOf CX0 P w K mg base N qual (defScope st) f cdv A outer s H E0).nox (defBody st) t wb)
    (hw : ∀ ds Q, ds.length = ps.length → wf ds Q → wb { nx := fun _ => Q .none, rt := Q } (startE N (ds.map .fz))) : FnG P w K mg base (k + 1) f fd ps (spW K ps.length wf) := by
  refine fnG_of F S (fun vs H Q E h => ?_) fun cdv A outer s H vs Q hr hG h => ?_
  · obtain ⟨F, ds, P, _, hd, hl, _⟩ := h
    rw [hd.length, hl]
  · obtain ⟨F, ds, P, b, hd, hl, hp, k⟩ := h
    obtain ⟨t, ht⟩ := hbody cdv A outer s H hr hG
    refine ⟨t, ht.pss, ht.sem (rep_start b hd) (hw ds P hl hp) ⟨fun η' σ' F' H' q _ r => ?_, fun _ _ _ _ q => q.elim, fun _ _ _ _ q => q.elim, fun d v F' H' q e h => k d v F' H' q e h⟩⟩
    exact k _ _ F' H' q r.out .non
theorem fn_src {P : Program} {w : World} {K : PySem.W.Frag} {mg : Str → Option Value} {base : Heap} {k : Nat} {f : Addr} {x qual : Str} {st : Stmt} {fd : FuncData} {N ps : List Str} {p0 : Str} {wf : WF} {wb : WS} (F : Fun K x qual st f fd) (S : FnScope N (p0 :: ps) (defScope st))
    (hbody : ∀ (cdv : Value) (A : Around) (outer : List Env) (s : Shared) (H : Hp), Room k (A.deeper (envOfC qual (defScope st) s.heap.objs.size f cdv)) → (A.deeper (envOfC qual (defScope st) s.heap.objs.size f cdv)).guards = some [] →
      ∃ t, DSs (cxOf CX0 P w K mg base N qual (defScope st) f cdv A outer s H E0).nox (defBody st) t wb)
    (hw : ∀ ds Q, ds.length = ps.length → wf ds Q → wb { nx := fun _ => Q .none, rt := Q } (startE N (.src :: ds.map .fz))) : FnG P w K mg base (k + 1) f fd (p0 :: ps) (spS K ps.length wf) := by
  refine fnG_of F S (fun vs H Q E h => ?_) fun cdv A outer s H vs Q hr hG h => ?_
  · obtain ⟨a, b, vs', F, ds, P, rfl, _, hd, hl, _⟩ := h
    rw [List.length_cons, List.length_cons, hd.length, hl]
  · obtain ⟨a, b, vs', F, ds, P, rfl, bb, hd, hl, hp, k⟩ := h
    obtain ⟨t, ht⟩ := hbody cdv A outer s H hr hG
    refine ⟨t, ht.pss, ht.sem (rep_startS bb hd) (hw ds P hl hp) ⟨fun η' σ' F' H' q _ r => ?_, fun _ _ _ _ q => q.elim, fun _ _ _ _ q => q.elim, fun d v F' H' q e h => k d v F' H' q e h⟩⟩
    exact k _ _ F' H' q r.out .non

/-! ### calls -/
def wFn (n : Nat) (wf : WF) (wa : WA) : WE := fun η Q => wa η fun ds => ds.length = n ∧ wf ds Q
def isFlat : D → Bool
  | .none => true
  | .bool _ => true
  | .int _ => true
  | .str _ => true
  | _ => false
def wFnB (n : Nat) (wf : WF) (wa : WA) : WE := fun η Q => wa η fun ds => ds.length = n ∧ wf ds fun d => isFlat d = true ∧ Q d
theorem Base.none {sx : Sx} {F H : Hp} (b : Base sx F H) : Base none F H := ⟨b.le, trivial, fun _ h => h.elim⟩
theorem Cont.pure {K : PySem.W.Frag} {sx : Sx} {F H : Hp} {Q : D → Prop} {R : VK} (k : Cont K sx F H Q R) (b : Base sx F H) : Cont K none F H Q R := fun d v F' H' q e h => k d v F' H' q (e.pure b) h
theorem sem_fn {K : PySem.W.Frag} {n : Nat} {wf : WF} {ta : TA} {wa : WA} (ha : SemB K ta wa) : SemE K (tCall (spW K n wf) [] E0 ta) (wFn n wf wa) := fun {sx H0 F0 F σ H η Q R} r hw k => ha r hw fun ds vs F1 H1 q e hd => by
  rw [List.append_nil]
  exact ⟨F1, ds, Q, (r.ext e).base.none, hd, q.1, q.2, (k.ext e).pure (r.ext e).base⟩
section
variable {X : Cx} {k n : Nat} {f : Addr} {fd : FuncData} {ps : List Str} {wf : WF} {x : Str} {p pos : Pos} {e : Expr} {es : List Expr} {ta : TA} {wa : WA}
theorem de_fn (G : FnG X.prog X.w X.K X.mg X.base k f fd ps (spW X.K n wf)) (hr : Room k X.A) (hG : X.A.guards = some []) (hm : X.mg x = some (.ref f)) (hk : PySem.W.keepIn X.K (.ref f) = true) (hb : Binds X.K fd ps []) (hg : Gl X x) (ha : DB X (e :: es) ta wa)
    (hdb : (x == ("__debug__" : Str)) = false := by decide) (he : starEach (e :: es) X.env = (false, eval e X.env) :: starEach es X.env := by rfl) (hpl : (backTo pos (starEach es X.env)).any (·.1) = false := by rfl) :
    DE X (.Call (.Name x p) (e :: es) [] pos) (tCall (spW X.K n wf) [] E0 ta) (wFn n wf wa) := ⟨pe_callG G hr hG hg hm hk hb ha.pa hdb he hpl, sem_fn ha.sem⟩
end
/-- lists of slots' own lent to a def that hands back no object -/
def lendF (vs : List V) (F H : Hp) : Hp := fun b => match F b with
  | some o => some o
  | none => if V.ref b ∈ vs then (match H b with | some (.lst xs) => some (.lst xs) | _ => none) else none
theorem lend_same {vs : List V} {F H : Hp} : Same F (lendF vs F H) := fun b o h => by unfold lendF; rw [h]
theorem lend_le {vs : List V} {F H : Hp} (le : Same F H) : Same (lendF vs F H) H := fun b o h => by
  unfold lendF at h
  cases q : F b with
  | some u => rw [q] at h; cases h; exact le _ _ q
  | none =>
    rw [q] at h
    dsimp only at h
    split at h
    · split at h
      · rename_i z; rw [← h]; exact z
      · cases h
    · cases h
/-- no dict of a slot's own among the arguments -/
def noDict : D → Bool
  | .dict _ => false
  | _ => true
theorem lend_dt {K : PySem.W.Frag} {sx : Sx} {H0 F0 F H : Hp} {σ : L2.St} {η : En} (r : Rep K sx H0 F0 F σ H η) (all : List V) : ∀ {vs : List V} {ds : List D}, OpL K F σ η vs ds → (∀ v ∈ vs, v ∈ all) → (∀ (i : Nat) (d : D), η[i]? = some (Slot.ow d) → d ∈ ds → noDict d = true) → DtL K (lendF all F H) vs ds
  | _, _, .nil, _, _ => .nil
  | _, _, .cons (a := v) (b := d) h t, hm, hn => by
    refine .cons ?_ (lend_dt r all t (fun v hv => hm v (List.mem_cons_of_mem _ hv)) fun i d hi hd => hn i d hi (List.mem_cons_of_mem _ hd))
    rcases h with h | ⟨i, a, h1, h2, rfl⟩
    · exact h.mono lend_same
    · obtain ⟨a', e, ho, hf, _⟩ := r.sl i _ _ h1 h2
      cases e
      have nd := hn i d h1 List.mem_cons_self
      cases d with
      | list ds =>
        obtain ⟨xs, hH, hd⟩ := ho
        refine .lst ?_ (hd.mono lend_same)
        unfold lendF
        rw [hf]
        dsimp only
        rw [if_pos (hm _ List.mem_cons_self), hH]
      | dict es => cases nd
      | _ => exact ho.elim
theorem flat_dt {K : PySem.W.Frag} {F F' : Hp} {v : V} {d : D} (h : Dt K F v d) (f : isFlat d = true) : Dt K F' v d := by
  cases h <;> first | (cases f; done) | constructor
def ownDicts (η : En) : Bool := η.all fun s => match s with
  | .ow (.dict _) => false
  | _ => true
theorem sem_fnB {K : PySem.W.Frag} {n : Nat} {wf : WF} {ta : TA} {wa : WA} (ha : SemA K ta wa) : SemE K (tCall (spW K n wf) [] E0 ta) (fun η Q => ownDicts η = true ∧ wFnB n wf wa η Q) := fun {sx H0 F0 F σ H η Q R} r hw k => ha r hw.2 fun ds vs F1 H1 q e ho => by
  rw [List.append_nil]
  have r1 := r.ext e
  refine ⟨lendF vs F1 H1, ds, fun d => isFlat d = true ∧ Q d, ⟨lend_le r1.base.le, trivial, fun _ h => h.elim⟩, lend_dt r1 vs ho (fun _ h => h) (fun i d hi _ => ?_), q.1, q.2, fun d v F' H' q' e' h => ?_⟩
  · have h1 := List.all_eq_true.mp hw.1 _ (List.mem_of_getElem? hi)
    cases d <;> first | rfl | (cases h1)
  · have e2 : Ext2 none F1 H1 F1 H' := ⟨Same.refl _, e'.sH, fun b o z => e'.sH _ _ (r1.base.le _ _ z) (fun z => z), fun _ _ z => .inl z, trivial⟩
    exact k d v F1 H' q'.2 (e.trans (e2.pure r1.base)) (flat_dt h q'.1)
section
variable {X : Cx} {k n : Nat} {f : Addr} {fd : FuncData} {ps : List Str} {wf : WF} {x : Str} {p pos : Pos} {e : Expr} {es : List Expr} {ta : TA} {wa : WA}
theorem de_fnB (G : FnG X.prog X.w X.K X.mg X.base k f fd ps (spW X.K n wf)) (hr : Room k X.A) (hG : X.A.guards = some []) (hm : X.mg x = some (.ref f)) (hk : PySem.W.keepIn X.K (.ref f) = true) (hb : Binds X.K fd ps []) (hg : Gl X x) (ha : DA X (e :: es) ta wa)
    (hdb : (x == ("__debug__" : Str)) = false := by decide) (he : starEach (e :: es) X.env = (false, eval e X.env) :: starEach es X.env := by rfl) (hpl : (backTo pos (starEach es X.env)).any (·.1) = false := by rfl) :
    DE X (.Call (.Name x p) (e :: es) [] pos) (tCall (spW X.K n wf) [] E0 ta) (fun η Q => ownDicts η = true ∧ wFnB n wf wa η Q) := ⟨pe_callG G hr hG hg hm hk hb ha.pa hdb he hpl, sem_fnB ha.sem⟩
end
/-- a def that takes the source -/
def wFnS (i n : Nat) (wf : WF) (wa : WA) : WE := fun η Q => match η[i]? with
  | some .src => wa η fun ds => ds.length = n ∧ wf ds Q
  | _ => False
theorem sem_fnS {K : PySem.W.Frag} {i n : Nat} {wf : WF} {ta : TA} {wa : WA} (ha : SemB K ta wa) : SemE K (tCall (spS K n wf) [] E0 (tCons (tVar i) ta)) (wFnS i n wf wa) := fun {sx H0 F0 F σ H η Q R} r hw k => by
  unfold wFnS at hw
  split at hw
  · rename_i hi
    obtain ⟨v, hv, a, b, rfl, rfl⟩ := r.val hi
    refine ⟨.ref a, hv, ha r hw fun ds vs F1 H1 q e hd => ?_⟩
    show spS K n wf ((V.ref a :: vs) ++ []) H1 R E0
    rw [List.append_nil]
    exact ⟨a, b, vs, F1, ds, Q, rfl, (r.ext e).base, hd, q.1, q.2, k.ext e⟩
  · exact hw.elim
section
variable {X : Cx} {k n : Nat} {f : Addr} {fd : FuncData} {ps : List Str} {wf : WF} {x : Str} {p pos : Pos} {e : Expr} {es : List Expr} {ta : TA} {wa : WA}
theorem de_fnS (i : Nat) (G : FnG X.prog X.w X.K X.mg X.base k f fd ps (spS X.K n wf)) (hr : Room k X.A) (hG : X.A.guards = some []) (hm : X.mg x = some (.ref f)) (hk : PySem.W.keepIn X.K (.ref f) = true) (hb : Binds X.K fd ps []) (hg : Gl X x) (hn : PE X e (tVar i)) (ha : DB X es ta wa)
    (hdb : (x == ("__debug__" : Str)) = false := by decide) (he : starEach (e :: es) X.env = (false, eval e X.env) :: starEach es X.env := by rfl) (hpl : (backTo pos (starEach es X.env)).any (·.1) = false := by rfl) :
    DE X (.Call (.Name x p) (e :: es) [] pos) (tCall (spS X.K n wf) [] E0 (tCons (tVar i) ta)) (wFnS i n wf wa) := ⟨pe_callG G hr hG hg hm hk hb (pa_cons hn ha.pa he) hdb he hpl, sem_fnS ha.sem⟩
end
end W2

set_option Elab.async false
set_option linter.all false
set_option maxRecDepth 100000
/-! W2S: sorted over data, empty tuples among them too. -/
namespace W2
open PySem PySem.Spec PyProof.Rows L2 PySem.SeqAt PySem.W

section
variable {A : Around} {s : Shared}
/-- sorting asks tuple's own __lt__ -/
theorem tupLtCall {prog : Program} {w : World} {E : Value → Shared → Prop} {Q : Value → Shared → Prop} {l b : Addr} {xs ys : Array Value} {e r : Nat → Bool} (hl : s.heap.IsTuple l xs) (hb : s.heap.IsTuple b ys)
    (he : ∀ j (h1 : j < xs.size) (h2 : j < ys.size), EqAt A.in1 s xs[j] ys[j] (e j)) (hr : ∀ j (h1 : j < xs.size) (h2 : j < ys.size), e j = false → RcLt A.in1 s xs[j] ys[j] (r j))
    (h : Q (.bool (firstLt e r (decide (xs.size < ys.size)) (List.range (min xs.size ys.size)))) s) : wpAny (model prog w) A (call (.builtin "tuple.__lt__") [.ref l, .ref b]) Q E s := by
  obtain ⟨⟨c1, d1, t1, s1⟩, o1, k1, n1, z1⟩ := id hl
  obtain ⟨⟨c2, d2, t2, s2⟩, o2, k2, n2, z2⟩ := id hb
  simp only at k1 z1 k2 z2
  subst k1 z1 k2 z2
  exact call_meets PySem.F.slot_tuple_lt ⟨_, o1, rfl⟩ PySem.F.entry_tuple_lt (PySem.F.args_tuple_lt_2 _ _) (tuple_ltAt l b xs ys n1 n2 d1 d2 s1 s2 e r) ⟨o1, o2, he, hr, h⟩
end
section
variable {prog : Program} {w : World} {A : Around} {E : Value → Shared → Prop} {s : Shared}
/-- the comparison of two tuples that sorting makes where all keys are tuples -/
theorem oneLtTup {xs ys : List PyData} {a b : Value} {as bs : List Addr} {Q : Bool → Shared → Prop} (ra : Reads s.heap a (.tuple xs) as) (rb : Reads s.heap b (.tuple ys) bs) (h : alike (.tuple xs) (.tuple ys) = true)
    (hu : A.units + min (PyData.tuple xs).depth (PyData.tuple ys).depth < cLine) (hq : Q (dataLt (.tuple xs) (.tuple ys)) s) : wpAny (model prog w) A (oneLt' true a b) Q E s := by
  have hal : alikeAll xs ys = true := by simpa [alike] using h
  cases ra with
  | @tuple l o vs n _ _ h1 h2 h3 h4 =>
    cases rb with
    | @tuple l' o' us m _ _ k1 k2 k3 k4 =>
      have n1 : vs.size = xs.length := by simpa using ReadsAll.length _ _ _ h4
      have n2 : us.size = ys.length := by simpa using ReadsAll.length _ _ _ k4
      rw [dataLt_tuple, ← firstLt_toks xs ys hal, ← n1, ← n2] at hq
      rw [oneLt'_eq]
      simp only [if_true]
      have room := room_in hu
      refine wpAny_bind (wpAny_cRoomFor (by omega) (wpAny_bind (wpAny_callSpecialIfBound?_slot (T := "tuple") ⟨_, h1, h2⟩ PySem.F.slot_tuple_lt (tupLtCall (e := pairEq xs ys) (r := fun j => dataLt (xs.getD j .none) (ys.getD j .none)) ⟨_, h1, h2, _, h3⟩ ⟨_, k1, k2, _, k3⟩ (fun j j1 j2 => ?_) (fun j j1 j2 hj => ?_) (wpAny_truthy_bool hq)))))
      · have q := eqAt_alikeAll xs ys A.in1 s vs.toList us.toList _ _ h4 k4 hal room j (by simpa using j1) (by simpa using j2)
        simpa using q
      · have q := rcLt_alikeAll xs ys A.in1 s vs.toList us.toList _ _ h4 k4 hal room j (by simpa using j1) (by simpa using j2) hj
        simpa using q
/-- the first places of tuples, where there are any -/
def Firsts (h : Heap) : List Value → List (Option Value) → Prop
  | [], [] => True
  | v :: vs, f :: fs => (∃ a o xs n, v = .ref a ∧ h.get? a = some o ∧ o.cls = .type "tuple" ∧ o.data = .seq xs n ∧ xs[0]? = f) ∧ Firsts h vs fs
  | _, _ => False
theorem mapM_firsts {M : Model} : ∀ (vs : List Value) (fs : List (Option Value)) {Q : List (Option Value) → Shared → Prop}, Firsts s.heap vs fs → Q fs s → wpAny M A (vs.mapM firstOfTuple') Q E s
  | [], [], _, _, h => by rw [List.mapM_nil]; exact wpAny_pure h
  | [], _ :: _, _, t, _ => t.elim
  | _ :: _, [], _, t, _ => t.elim
  | v :: vs, f :: fs, Q, t, h => by
    obtain ⟨⟨a, o, xs, n, rfl, ho, hc, hd, hf⟩, t⟩ := t
    rw [List.mapM_cons, kas_first_eq]
    have lk : Looks M s.heap (typeOf (.ref a)) o.cls := (Looks.ld ho).andThen .now
    refine wpAny_bind (wpAny_bind (lk.here ?_))
    rw [hc, if_neg (by simp)]
    refine wpAny_bind (listItems_at ho hd (wpAny_pure ?_))
    rw [hf]
    exact wpAny_bind (mapM_firsts vs fs (Q := fun bs s' => wpAny M A (pure (f :: bs)) Q E s') t (wpAny_pure h))
theorem firsts_of {h : Heap} : ∀ {vs : List Value} {ds : List PyData}, EachIs (fun v d => ∃ as, Reads h v d as) vs ds → (∀ d, d ∈ ds → ∃ xs, d = .tuple xs) → ∃ fs, Firsts h vs fs ∧ (PyData.tuple [] ∈ ds → none ∈ fs)
  | _, _, .nil, _ => ⟨[], trivial, fun h => absurd h (by simp)⟩
  | _, _, .cons (b := d) ⟨as, r⟩ t, ht => by
    obtain ⟨fs, h1, h2⟩ := firsts_of t fun d hd => ht d (List.mem_cons_of_mem _ hd)
    obtain ⟨xs, rfl⟩ := ht d (List.mem_cons_self ..)
    cases r with
    | @tuple a o vs n _ _ ho hc hd hr =>
      refine ⟨vs[0]? :: fs, ⟨⟨a, o, vs, n, rfl, ho, hc, hd, rfl⟩, h1⟩, fun hm => ?_⟩
      rcases List.mem_cons.mp hm with e | hm
      · have e1 : xs = [] := by cases e; rfl
        subst e1
        have e2 : vs.toList = [] := by
          cases q : vs.toList with
          | nil => rfl
          | cons x r => rw [q] at hr; cases hr
        have e3 : vs = #[] := Array.toList_inj.mp (by rw [e2])
        subst e3
        exact List.mem_cons_self ..
      · exact List.mem_cons_of_mem _ (h2 hm)
theorem SortsAt.tups {vs : List Value} {ds : List PyData} (e : EachIs (fun v d => ∃ as, Reads s.heap v d as) vs ds) (hal : AllAlike ds) (ht : ∀ d, d ∈ ds → ∃ xs, d = .tuple xs) (hu : ∀ d, d ∈ ds → A.units + d.depth < cLine) : SortsAt prog w A s (dataKind s.heap ds) vs := by
  by_cases hne : PyData.tuple [] ∈ ds
  · obtain ⟨fs, f1, f2⟩ := firsts_of e ht
    have hno := f2 hne
    have room : ∀ {d d' : PyData}, d ∈ ds → A.units + min d.depth d'.depth < cLine := fun {d d'} hd => Nat.lt_of_le_of_lt (Nat.add_le_add_left (Nat.min_le_left _ _) _) (hu d hd)
    have notall : ¬ (fs.toArray.all fun x => x.isSome) = true := fun z => by
      rw [List.all_toArray, List.all_eq_true] at z
      exact absurd (z _ hno) (by simp)
    have keys : ∀ v, v ∈ vs → ∃ a, (dataKind s.heap ds).keyOf v = some a := fun v hv => by
      obtain ⟨d, hd, as, r⟩ := e.left v hv
      exact ⟨_, dataKind_some hal hd r⟩
    by_cases hf : (fs.toArray[0]?.bind id).isSome = true
    · refine ⟨keys, general', fun E x y a b Q ha hb hq => ?_, fun h2 E Q hq => ?_⟩
      · obtain ⟨d, as, hd, ra, rfl⟩ := dataKind_inv ha
        obtain ⟨d', as', hd', rb, rfl⟩ := dataKind_inv hb
        have hn : d ≠ .none := by obtain ⟨xs, rfl⟩ := ht d hd; intro z; cases z
        show wpAny _ _ (oneLt' false x y) _ _ _
        exact oneLt_alike (fun z => nomatch z) ra rb (hal d hd d' hd') hn (room hd) hq
      · rw [kat_kind_eq, List.mapM_toArray, map_eq_pure_bind]
        refine wpAny_bind (wpAny_bind (mapM_firsts vs _ f1 (wpAny_pure ?_)))
        rw [if_neg notall, if_pos hf]
        exact wpAny_pure hq
    · refine ⟨keys, oneType', fun E x y a b Q ha hb hq => ?_, fun h2 E Q hq => ?_⟩
      · obtain ⟨d, as, hd, ra, rfl⟩ := dataKind_inv ha
        obtain ⟨d', as', hd', rb, rfl⟩ := dataKind_inv hb
        rw [keyLt'_oneType]
        have al := hal d hd d' hd'
        have rm := room (d' := d') hd
        obtain ⟨xs, rfl⟩ := ht d hd
        obtain ⟨ys, rfl⟩ := ht d' hd'
        exact oneLtTup ra rb al rm hq
      · rw [kat_kind_eq, List.mapM_toArray, map_eq_pure_bind]
        refine wpAny_bind (wpAny_bind (mapM_firsts vs _ f1 (wpAny_pure ?_)))
        rw [if_neg notall, if_neg hf, oneTypeOnly'_eq, List.mapM_toArray, map_eq_pure_bind]
        have hT : ∀ v ∈ vs, Looks (model prog w) s.heap (typeOf v) (.type "tuple") := fun v hv => by
          obtain ⟨d, hd, as, r⟩ := e.left v hv
          obtain ⟨xs, rfl⟩ := ht d hd
          exact looks_reads r
        obtain ⟨v₁, rest, rfl⟩ : ∃ v₁ rest, vs = v₁ :: rest := by
          cases vs with
          | nil => simp at h2
          | cons a b => exact ⟨a, b, rfl⟩
        refine wpAny_bind (wpAny_bind (wpAny_bind (kas_mapM (r := Value.type "tuple") _ (fun v hv Q' hq => (hT v hv).here hq) (wpAny_pure ?_))))
        have hall : ((List.map (fun _ => Value.type "tuple") (v₁ :: rest)).toArray.all fun x => x == Value.type "tuple") = true := by
          simp only [List.all_toArray, List.all_map, List.all_eq_true]
          intro _ _
          exact beq_self_eq_true _
        have h0 : (List.map (fun _ => Value.type "tuple") (v₁ :: rest)).toArray[0]? = some (Value.type "tuple") := by simp
        rw [h0]
        simp only [hall, if_true]
        exact wpAny_pure (wpAny_pure hq)
  · refine SortsAt.data e hal (.inl fun d hd => ?_) hu
    obtain ⟨xs, rfl⟩ := ht d hd
    cases xs with
    | nil => exact absurd hd hne
    | cons x r => exact ⟨x, r, rfl⟩
end
end W2

set_option Elab.async false
set_option linter.all false
set_option maxRecDepth 100000
/-! W2T: sorted, repr, sum, max, min over data. -/
namespace W2
open PySem PySem.Spec PyProof.Rows L2 PySem.W

/-! ### sorted -/
def sortD (ds : List D) : List D := ds.mergeSort (dataLe false id)
def isTup : D → Bool
  | .tuple _ => true
  | _ => false
def isNon : D → Bool
  | .none => true
  | _ => false
/-- what can be sorted here -/
def sortOk (ds : List D) : Bool := (ds.all fun d => ds.all fun e => alike d e) && (ds.all isTup || ds.all fun d => !isTup d && !isNon d) && ds.all fun d => decide (d.depth ≤ 64)
section
variable {prog : Program} {w : World} {A : Around} {s : Shared}
theorem sortsAt_ok {vs : List Value} {ds : List PyData} (e : EachIs (fun v d => ∃ as, Reads s.heap v d as) vs ds) (h : sortOk ds = true) (hu : A.units + 64 < cLine) : SortsAt prog w A s (dataKind s.heap ds) vs := by
  unfold sortOk at h
  rw [Bool.and_eq_true, Bool.and_eq_true] at h
  obtain ⟨⟨h1, h2⟩, h3⟩ := h
  have hal : AllAlike ds := fun d hd d' hd' => List.all_eq_true.mp (List.all_eq_true.mp h1 d hd) d' hd'
  have dep : ∀ d, d ∈ ds → A.units + d.depth < cLine := fun d hd => by
    have := of_decide_eq_true (List.all_eq_true.mp h3 d hd)
    omega
  rcases Bool.or_eq_true _ _ ▸ h2 with h2 | h2
  · exact SortsAt.tups e hal (fun d hd => by
      have q := List.all_eq_true.mp h2 d hd
      cases d <;> first | (cases q; done) | exact ⟨_, rfl⟩) dep
  · refine SortsAt.data e hal (.inr fun d hd => ?_) dep
    have q := List.all_eq_true.mp h2 d hd
    constructor
    · rintro rfl; cases q
    · rintro xs rfl; cases q
theorem allAlike_ok {ds : List PyData} (h : sortOk ds = true) : AllAlike ds := by
  unfold sortOk at h
  rw [Bool.and_eq_true, Bool.and_eq_true] at h
  exact fun d hd d' hd' => List.all_eq_true.mp (List.all_eq_true.mp h.1.1 d hd) d' hd'
end
/-- pairs of a value and its data, sorted by the data -/
def sortP (bs : List (V × D)) : List (V × D) := bs.mergeSort (dataLe false (fun b => b.2))
theorem sortP_snd (bs : List (V × D)) : (sortP bs).map (·.2) = sortD (bs.map (·.2)) := by
  unfold sortP sortD
  exact sort_maps (r := dataLe false fun b : V × D => b.2) (s := dataLe false id) (fun b : V × D => b.2) fun a _ b _ => rfl
theorem each_of {P : Value → V × D → Prop} : ∀ {vs : List V} {ds : List D} {us : List Value}, vs.length = ds.length → Vals vs us → (∀ v d u, (v, d) ∈ vs.zip ds → RelV v u → P u (v, d)) → EachIs P us (vs.zip ds)
  | [], [], _, _, r, _ => by cases r; exact .nil
  | v :: vs, d :: ds, _, hl, r, h => by
    cases r with
    | cons r1 r2 => exact .cons (h v d _ (by simp) r1) (each_of (by simpa using hl) r2 fun v' d' u hm => h v' d' u (by simp [hm]))
  | [], _ :: _, _, hl, _, _ => by simp at hl
  | _ :: _, [], _, hl, _, _ => by simp at hl
theorem each_vals : ∀ {us : List Value} {bs : List (V × D)}, EachIs (fun u b => RelV b.1 u) us bs → Vals (bs.map (·.1)) us
  | _, _, .nil => .nil
  | _, _, .cons h t => .cons h (each_vals t)
theorem zip_snd {α β : Type} : ∀ {xs : List α} {ys : List β}, xs.length = ys.length → (xs.zip ys).map (·.2) = ys
  | [], [], _ => rfl
  | x :: xs, y :: ys, h => by simp [zip_snd (by simpa using h : xs.length = ys.length)]
  | [], _ :: _, h => by simp at h
  | _ :: _, [], h => by simp at h
section
variable {X : Cx} {pins : List (Addr × Obj)} {σ : L2.St} {H : Hp} {s : Shared}
/-- a list that was just laid is sorted -/
theorem sort_laid {A : Around} {P : PySem.Fin → Shared → Prop} {E : Value → Shared → Prop} {vs : List V} {ds : List D} {us : List Value} (I : Inv X pins σ H s) (hu : A.units + 64 < cLine) (r : Vals vs us) (hd : DpAll X.K H vs ds) (ok : sortOk ds = true) (hz : us.length ≤ sizeLine) {tk : Nat}
    (h : ∀ (s' : Shared) (ws : List V), ws = (sortP (vs.zip ds)).map (·.1) → Inv X pins σ (upd H s.heap.objs.size (.lst ws)) s' → P (.done (.ret .none)) s') :
    wpAny (model X.prog X.w) A (Builtin.«list.sort» ⟨[.ref s.heap.objs.size], []⟩) P E { s with heap := s.heap.push (seqObj "list" us.toArray 0), toks := tk } := by
  have hl : vs.length = ds.length := by
    have : ∀ {vs : List V} {ds : List D}, DpAll X.K H vs ds → vs.length = ds.length := by
      intro vs
      induction vs with
      | nil => intro ds h; cases h; rfl
      | cons v vs ih => intro ds h; cases h with | cons _ t => simp [ih t]
    exact this hd
  have hp : (s.heap.push (seqObj "list" us.toArray 0)).get? s.heap.objs.size = some (seqObj "list" us.toArray 0) := Heap.get?_push_size _ rfl
  obtain ⟨_, ras⟩ := Dp.readsAll I ds vs us hd r
  -- each value reads as its data, in the heap where it is sorted
  have old : ∀ b o, s.heap.get? b = some o → (sortingHeap (s.heap.push (seqObj "list" us.toArray 0)) s.heap.objs.size us).get? b = some o := fun b o e =>
    sortingHeap_old (Nat.ne_of_lt (Heap.lt_size e)) (Heap.get?_push_of_some _ e)
  have each : EachIs (fun v d => ∃ as, Reads (sortingHeap (s.heap.push (seqObj "list" us.toArray 0)) s.heap.objs.size us) v d as) us ds := by
    have go : ∀ {us' : List Value} {ds' : List D} {as : List Addr}, ReadsAll s.heap us' ds' as → EachIs (fun v d => ∃ as, Reads (sortingHeap (s.heap.push (seqObj "list" us.toArray 0)) s.heap.objs.size us) v d as) us' ds' := by
      intro us'
      induction us' with
      | nil => intro ds' as h; cases h; exact .nil
      | cons u us' ih =>
        intro ds' as h
        cases h with
        | cons h1 h2 => exact .cons ⟨_, PyProof.Rows.Reads.keeps old h1⟩ (ih h2)
    exact go ras
  have sz : (vs.zip ds).map (·.2) = ds := zip_snd hl
  have h1 : EachIs (fun u (b : V × D) => RelV b.1 u) us (vs.zip ds) := each_of hl r fun v d u _ q => q
  have h2 : EachIs (fun v (b : V × D) => ∃ as, Reads (sortingHeap (s.heap.push (seqObj "list" us.toArray 0)) s.heap.objs.size us) v b.2 as) us (vs.zip ds) := each_of_map (fun b : V × D => b.2) (by rw [sz]; exact each)
  have h3 := sortVals_data (enc := fun b : V × D => b.2) false h1 h2 (by rw [sz]; exact allAlike_ok ok)
  rw [sz] at h3
  refine list_sort_vals (κ := dataKind (sortingHeap (s.heap.push (seqObj "list" us.toArray 0)) s.heap.objs.size us) ds) (n := 0) hp (sortsAt_ok (s := { s with heap := _, toks := tk }) each ok hu) hz ?_
  have hv := each_vals h3
  obtain ⟨c, hc⟩ := sortedHeap_at (out := (sortVals (dataKind (sortingHeap (s.heap.push (seqObj "list" us.toArray 0)) s.heap.objs.size us) ds) false us us).toArray) hp
  refine h _ _ rfl (I.laid (t' := tk) (fun b o e => ?_) (Nat.le_refl _) ⟨?_, _, c, hv, hc⟩)
  · have lt := Heap.lt_size e
    rw [sortedHeap_old (Nat.ne_of_lt lt) (by rw [size_push']; exact Nat.lt_succ_of_lt lt)]
    exact Heap.get?_push_of_some _ e
  · show ((sortP (vs.zip ds)).map (·.1)).length ≤ sizeLine
    have hl2 : vs.length = us.length := r.length
    rw [List.length_map, sortP, List.length_mergeSort, List.length_zip]
    omega
theorem sortedGo {A : Around} {E : Value → Shared → Prop} {Q : Value → Shared → Prop} {v : Value} {vs : List V} {ds : List D} (hu : A.units + 70 < cLine) (ha : argsOk "sorted" ⟨[v], []⟩) (hd : DpAll X.K H vs ds)
    (hcol : ∀ (Q' : List Value → Shared → Prop) (E' : Value → Shared → Prop), (∀ s1 us, Inv X pins σ H s1 → Vals vs us → us.length ≤ sizeLine → Q' us s1) → wpAny (model X.prog X.w) A.in1 (collect v) Q' E' s) (ok : sortOk ds = true)
    (h : ∀ (s' : Shared) (p : Addr) (ws : List V), ws = (sortP (vs.zip ds)).map (·.1) → H p = none → Inv X pins σ (upd H p (.lst ws)) s' → Q (.ref p) s') : wpAny (model X.prog X.w) A (call (.builtin "sorted") [v]) Q E s := by
  refine Calls.call_function_entry PyProof.Rows.kind_sorted PyProof.Rows.plain_sorted PyProof.Rows.entry_sorted ha ?_
  unfold Builtin.«sorted»
  refine wpAny_bind (m := checkCount "sorted" 1 1 _) (wpAny_pure (wpAny_bind (hcol _ _ fun s1 us I1 r hz => ?_)))
  refine wpAny_bind (wpAny_newList ?_ hz)
  refine wpAny_bind (wpAny_holding (wpAny_call_entry_kw PySem.F.slot_list_sort ⟨_, Heap.get?_push_size _ rfl, rfl⟩ PySem.F.entry_list_sort ?_ (PySem.F.args_list_sort_1 _)))
  show wpAny (model X.prog X.w) A.in1.in1 (Builtin.«list.sort» ⟨[.ref s1.heap.objs.size], []⟩) _ _ _
  refine sort_laid (tk := s1.toks) I1 (by show A.units + 1 + 1 + 64 < cLine; omega) r hd ok hz fun s' ws e I2 => ?_
  exact ⟨_, rfl, wpAny_pure ⟨_, rfl, h s' _ ws e (I1.hok.fresh (Nat.le_refl _)) I2⟩⟩
end

def rSortA (K : PySem.W.Frag) : List V → Hp → VK → Prop := fun xs H Q =>
  (∃ (a : Addr) (vs : List V) (ds : List D), xs = [.ref a] ∧ DpAll K H vs ds ∧ sortOk ds = true ∧ (SqL K H a vs ∨ SqT K H a vs ∨ ∃ kvs, Rd H a (.dK kvs) ∧ vs = kvs.map fun kv => kV kv.1) ∧
    ∀ p ws, ws = (sortP (vs.zip ds)).map (·.1) → H p = none → Q (.ref p) (upd H p (.lst ws))) ∨
  ∃ (a : Addr) (o : Obj) (kvs : List (List Key × V)) (zs : List (List Key × Addr × Value)), xs = [.ref a] ∧ RdT H a o ∧ (a == sysModules) = false ∧ TObj o zs ∧ KTF H kvs zs ∧ sortOk (kvs.map fun kv => .tuple (kv.1.map kD)) = true ∧
    ∀ p ws, ws = (sortP ((zs.map fun z => V.ref z.2.1).zip (kvs.map fun kv => .tuple (kv.1.map kD)))).map (·.1) → H p = none → Q (.ref p) (upd H p (.lst ws))
section
variable {X : Cx}
theorem dpAll_keysT {K : PySem.W.Frag} {H : Hp} : ∀ {ks : List Key}, DpAll K H (ks.map kV) (ks.map kD)
  | [] => .nil
  | .inl i :: ks => .cons (.int i) dpAll_keysT
  | .inr x :: ks => .cons (.str x) dpAll_keysT
theorem acc_of {P : Nat → Value → Prop} {acc : Array Value} {vs : List V} (h : ItemsOf P acc vs.length) (hp : ∀ (j : Nat) (u : Value) (v : V), vs[j]? = some v → P j u → RelV v u) : Vals vs acc.toList := by
  obtain ⟨h1, h2⟩ := h
  have go : ∀ (vs : List V) (us : List Value), us.length = vs.length → (∀ (j : Nat) u v, us[j]? = some u → vs[j]? = some v → RelV v u) → Vals vs us := by
    intro vs
    induction vs with
    | nil => intro us hl _; cases us with | nil => exact .nil | cons _ _ => simp at hl
    | cons v vs ih =>
      intro us hl hr
      cases us with
      | nil => simp at hl
      | cons u us => exact .cons (hr 0 u v rfl rfl) (ih us (by simpa using hl) fun j u' v' a b => hr (j + 1) u' v' (by simpa using a) (by simpa using b))
  exact go vs acc.toList (by rw [Array.length_toList]; exact h1) fun j u v e1 e2 => hp j u v e2 (h2 j u (by rw [← Array.getElem?_toList]; exact e1))
theorem cr_sortedA (hc : X.calm = true) (hu : X.A.units + 70 < cLine) : CallR X (.builtin "sorted") (rSortA X.K) := fun pins s σ H xs us Q I r h => by
  rcases h with ⟨a, vs, ds, rfl, hd, ok, hl | hl | ⟨kvs, rd, rfl⟩, q⟩ | ⟨a, ox, kvs, ks, rfl, rd, lo, t1, pr, ok, q⟩
  all_goals
    obtain ⟨u, rfl, rx⟩ := vals1 r
    cases rx
  · obtain ⟨its, rv, p, hz⟩ := I.list hl
    refine sortedGo hu (PyProof.Rows.args_sorted1 _) hd (fun Q' E' hq => ?_) ok fun s' p ws e n I' => ⟨.ref p, _, I', rfl, q p ws e n⟩
    have hz' : its.length ≤ sizeLine := by rw [← rv.length]; exact hz
    refine collect_list p.isList (hq _ _ (I.kept (t' := s.toks) fun b o e => ?_) rv hz') hz'
    rw [Heap.get?_update_ne _ _ _ _ (Nat.ne_of_lt (Heap.lt_size e))]
    exact Heap.get?_push_of_some _ e
  · obtain ⟨its, rv, p, hz⟩ := I.tuple hl
    refine sortedGo hu (PyProof.Rows.args_sorted1 _) hd (fun Q' E' hq => ?_) ok fun s' p ws e n I' => ⟨.ref p, _, I', rfl, q p ws e n⟩
    have hz' : its.length ≤ sizeLine := by rw [← rv.length]; exact hz
    obtain ⟨o, ho, hcl, m, hdt⟩ := p
    refine wpAny_collect_seq a (.inr rfl) ho hcl hdt (fun h' hk => ?_) (by rw [List.size_toArray]; exact hz')
    have e : its.toArray.toList = its := by simp
    rw [e]
    exact hq _ _ (I.kept (t' := s.toks) hk) rv hz'
  · obtain ⟨z, lo, ks, rel, dd⟩ := dk_rd I.hok rd
    obtain ⟨ep, hat⟩ := dd.dictAt
    have hl : kvs.length = ks.length := rel.length
    refine sortedGo hu (PyProof.Rows.args_sorted1 _) hd (fun Q' E' hq => ?_) ok fun s' p ws e n I' => ⟨.ref p, _, I', rfl, q p ws e n⟩
    refine PySem.W.kdu_collect (A := X.A.in1) (PySem.W.kdl_dict (knd := mixKind X.prog X.w) (kvs := ks) (ep := ep) lo) (I.ok.hd hc) hat (by omega) fun h' tk acc hk hacc => ?_
    have hv : Vals (kvs.map fun kv => kV kv.1) acc.toList := by
      refine acc_of (by rw [List.length_map, hl]; exact hacc) fun j u v hj hp => ?_
      obtain ⟨k, x, e1, e2⟩ := hp
      rw [List.getElem?_map] at hj
      cases hkv : kvs[j]? with
      | none => rw [hkv] at hj; cases hj
      | some kv =>
        rw [hkv] at hj
        cases hj
        obtain ⟨k', v'⟩ := kv
        obtain ⟨w', hw, _⟩ := kv_get rel hkv
        rw [e1] at hw
        cases hw
        exact relV_key (show keyIs k u = true from e2)
    exact hq _ _ (I.kept (t' := tk) hk) hv (by rw [← hv.length, List.length_map]; exact z)
  · obtain ⟨es, ep, hdt, _, he0⟩ := t1.ents
    have he := he0 X.prog X.w
    have hx := t1.exact
    have ho := rd.get I.hok
    have z := t1.small
    have l1 : es.size = ks.length := size_of_entries he
    have l2 : kvs.length = ks.length := Paired.length pr
    have hd : ∀ {kvs : List (List Key × V)} {ks : List (List Key × Addr × Value)}, KTF H kvs ks → DpAll X.K H (ks.map fun z => V.ref z.2.1) (kvs.map fun kv => .tuple (kv.1.map kD)) := by
      intro kvs ks h
      induction h with
      | nil => exact .nil
      | cons h _ ih => exact .cons (.tup h.2.1.sq dpAll_keysT) ih
    refine sortedGo hu (PyProof.Rows.args_sorted1 _) (hd pr) (fun Q' E' hq => ?_) ok fun s' p ws e n I' => ⟨.ref p, _, I', rfl, q p ws e n⟩
    refine PySem.W.kdu_collect (A := X.A.in1) (kdl_raw lo hx hdt) (I.ok.hd hc) ho (by omega) fun h' tk acc hk hacc => ?_
    have hv : Vals (ks.map fun x => V.ref x.2.1) acc.toList := by
      refine acc_of (by rw [List.length_map, ← l1]; exact hacc) fun j u v hj hp => ?_
      obtain ⟨en, hen, rfl⟩ := hp
      have h1 : es.toList[j]? = some en := by rw [Array.getElem?_toList]; exact hen
      rw [he, List.getElem?_map] at h1
      rw [List.getElem?_map] at hj
      cases hb : ks[j]? with
      | none => rw [hb] at hj; cases hj
      | some b =>
        rw [hb] at hj h1
        cases hj
        cases h1
        rfl
    exact hq _ _ (I.kept (t' := tk) hk) hv (by rw [← hv.length, List.length_map]; omega)
end
/-- the sorted pairs as data -/
theorem sortP_dt {K : PySem.W.Frag} {F : Hp} {vs : List V} {ds : List D} (h : DtL K F vs ds) : DtL K F ((sortP (vs.zip ds)).map (·.1)) (sortD ds) := by
  have hz : (vs.zip ds).map (·.2) = ds := zip_snd h.length
  have e : sortD ds = (sortP (vs.zip ds)).map (·.2) := by rw [sortP_snd, hz]
  rw [e]
  have mem : ∀ p ∈ sortP (vs.zip ds), Dt K F p.1 p.2 := fun p hp => by
    have hp' : p ∈ vs.zip ds := by
      unfold sortP at hp
      exact (List.mergeSort_perm _ _).mem_iff.mp hp
    have all : ∀ {vs : List V} {ds : List D}, DtL K F vs ds → ∀ p ∈ vs.zip ds, Dt K F p.1 p.2 := by
      intro vs
      induction vs with
      | nil => intro ds _ p hp; simp at hp
      | cons v vs ih =>
        intro ds h p hp
        cases h with
        | cons h1 h2 =>
          rw [List.zip_cons_cons] at hp
          rcases List.mem_cons.mp hp with rfl | hp
          · exact h1
          · exact ih h2 p hp
    exact all h p hp'
  generalize sortP (vs.zip ds) = l at mem
  induction l with
  | nil => exact .nil
  | cons p l ih => exact .cons (mem p List.mem_cons_self) (ih fun q hq => mem q (List.mem_cons_of_mem _ hq))
theorem DtL.dpA {K : PySem.W.Frag} {F H : Hp} (le : Same F H) {vs : List V} {ds : List D} (h : DtL K F vs ds) (c : PyData.canLayAll0 ds = true) : DpAll K H vs ds := DtL.dp le h c
def gSorted : List D → (D → Prop) → Prop
  | [.list ds], Q => PyData.canLayAll0 ds = true ∧ sortOk ds = true ∧ Q (.list (sortD ds))
  | [.tuple ds], Q => PyData.canLayAll0 ds = true ∧ sortOk ds = true ∧ Q (.list (sortD ds))
  | [.dict es], Q => sortOk (es.map (·.1)) = true ∧ Q (.list (sortD (es.map (·.1))))
  | _, _ => False
theorem DtK.keysEq {K : PySem.W.Frag} {F : Hp} : ∀ {kvs : List (Key × V)} {es : List (D × D)}, DtK K F kvs es → es.map (·.1) = kvs.map fun kv => kD kv.1
  | _, _, .nil => rfl
  | _, _, .cons _ t => by rw [List.map_cons, List.map_cons, t.keysEq]
theorem DtT.keysEq {K : PySem.W.Frag} {F : Hp} : ∀ {kvs : List (List Key × V)} {es : List (D × D)}, DtT K F kvs es → es.map (·.1) = kvs.map fun kv => .tuple (kv.1.map kD)
  | _, _, .nil => rfl
  | _, _, .cons _ t => by rw [List.map_cons, List.map_cons, t.keysEq]
theorem dpAll_kD {K : PySem.W.Frag} {H : Hp} : ∀ {kvs : List (Key × V)}, DpAll K H (kvs.map fun kv => kV kv.1) (kvs.map fun kv => kD kv.1)
  | [] => .nil
  | (.inl i, _) :: r => .cons (.int i) dpAll_kD
  | (.inr x, _) :: r => .cons (.str x) dpAll_kD
theorem dtL_kD {K : PySem.W.Frag} {H : Hp} : ∀ {kvs : List (Key × V)}, DtL K H (kvs.map fun kv => kV kv.1) (kvs.map fun kv => kD kv.1)
  | [] => .nil
  | (k, _) :: r => .cons (.key k) dtL_kD
theorem dtL_keysT {K : PySem.W.Frag} {F : Hp} : ∀ {kvs : List (List Key × V)} {zs : List (List Key × Addr × Value)}, KTF F kvs zs → DtL K F (zs.map fun z => V.ref z.2.1) (kvs.map fun kv => .tuple (kv.1.map kD))
  | _, _, .nil => .nil
  | _, _, .cons h t => .cons (.tup h.2.1 (.keys _)) (dtL_keysT t)
theorem cs_sorted {K : PySem.W.Frag} : CSemL K (rSortA K) gSorted := fun {sx F H vs ds Q R} b h hg k => by
  unfold gSorted at hg
  split at hg
  · obtain ⟨v, rfl, h1⟩ := Nws.one h
    obtain ⟨a, xs, rfl, h2, h3⟩ := h1.list b.le
    refine .inl ⟨a, xs, _, rfl, h3.dpA b.le hg.1, hg.2.1, .inl (SqL.of h2), fun p ws e hp => ?_⟩
    subst e
    exact k.new b hg.2.2 (sortP_dt h3) p hp
  · obtain ⟨v, rfl, h1⟩ := Nws.one h
    obtain ⟨a, xs, rfl, h2, h3⟩ := h1.tupleH b.le
    refine .inl ⟨a, xs, _, rfl, h3.dpA b.le hg.1, hg.2.1, .inr (.inl h2), fun p ws e hp => ?_⟩
    subst e
    exact k.new b hg.2.2 (sortP_dt h3) p hp
  · obtain ⟨v, rfl, h1⟩ := Nws.one h
    obtain ⟨a, rfl, ⟨kvs, rd, h3⟩ | ⟨ox, kvs, rd, ⟨hs, zs, t1, t2⟩, h3⟩⟩ := h1.dict b.le
    · rw [h3.keysEq] at hg
      refine .inl ⟨a, _, _, rfl, dpAll_kD, hg.1, .inr (.inr ⟨kvs, rd, rfl⟩), fun p ws e hp => ?_⟩
      subst e
      exact k.new b hg.2 (sortP_dt dtL_kD) p hp
    · rw [h3.keysEq] at hg
      refine .inr ⟨a, ox, kvs, zs, rfl, rd, hs, t1, t2.mono b.le, hg.1, fun p ws e hp => ?_⟩
      subst e
      exact k.new b hg.2 (sortP_dt (dtL_keysT t2)) p hp
  · exact hg.elim
end W2

set_option Elab.async false
set_option linter.all false
set_option maxRecDepth 100000
/-! W2U: repr, sums, what enumerate, zip and items walk. -/
namespace W2
open PySem PySem.Spec PyProof.Rows L2

/-! ### repr -/
/-- what repr can tell: no dict but an empty one -/
def canE : D → Bool
  | .none | .bool _ | .int _ => true
  | .str x => PyData.canLay0 (.str x)
  | .list xs | .tuple xs => canEAll xs
  | .dict es => es.isEmpty
where canEAll : List D → Bool
  | [] => true
  | x :: xs => canE x && canEAll xs
abbrev canEAll := canE.canEAll
mutual
theorem canE_of : ∀ d : D, d.canLay0 = true → canE d = true
  | .none, _ => rfl
  | .bool _, _ => rfl
  | .int _, _ => rfl
  | .str x, h => h
  | .list xs, h => by show canEAll xs = true; exact canEAll_of xs (by simpa [PyData.canLay0] using h)
  | .tuple xs, h => by show canEAll xs = true; exact canEAll_of xs (by simpa [PyData.canLay0] using h)
  | .dict _, h => by simp [PyData.canLay0] at h
theorem canEAll_of : ∀ xs : List D, PyData.canLayAll0 xs = true → canEAll xs = true
  | [], _ => rfl
  | x :: xs, h => by
    have h' : x.canLay0 = true ∧ PyData.canLayAll0 xs = true := by simpa [PyData.canLayAll0] using h
    show (canE x && canEAll xs) = true
    rw [canE_of x h'.1, canEAll_of xs h'.2]; rfl
end
/-- a text is at most so long -/
def reprOk (d : D) : Bool := canE d && d.showable && decide (d.depth ≤ 64) && decide (d.shown.length ≤ 16777216)
mutual
inductive RdE (h : Heap) : Value → D → Prop
  | none : RdE h .none .none
  | bool (b : Bool) : RdE h (.bool b) (.bool b)
  | int (i : Int) (t : Tok) : RdE h (.int i t) (.int i)
  | str (x : Str) (t : Tok) : RdE h (.str x t) (.str x)
  | list {a : Addr} {o : Obj} {vs : Array Value} {n : Nat} {xs : List D} : h.get? a = some o → o.cls = .type "list" → o.data = .seq vs n → RdEs h vs.toList xs → RdE h (.ref a) (.list xs)
  | tuple {a : Addr} {o : Obj} {vs : Array Value} {n : Nat} {xs : List D} : h.get? a = some o → o.cls = .type "tuple" → o.data = .seq vs n → RdEs h vs.toList xs → RdE h (.ref a) (.tuple xs)
  | dict {a : Addr} {o : Obj} {n : Nat} : h.get? a = some o → o.cls = .type "dict" → o.data = .dict #[] n → (a == sysModules) = false → RdE h (.ref a) (.dict [])
inductive RdEs (h : Heap) : List Value → List D → Prop
  | nil : RdEs h [] []
  | cons {v : Value} {vs : List Value} {d : D} {ds : List D} : RdE h v d → RdEs h vs ds → RdEs h (v :: vs) (d :: ds)
end
mutual
theorem RdE.reads {h : Heap} : ∀ {v : Value} {d : D}, RdE h v d → ∃ as, Reads h v d as
  | _, _, .none => ⟨_, .none⟩
  | _, _, .bool b => ⟨_, .bool b⟩
  | _, _, .int i t => ⟨_, .int i t⟩
  | _, _, .str x t => ⟨_, .str x t⟩
  | _, _, .list h1 h2 h3 h4 => ⟨_, .list h1 h2 h3 (RdEs.reads h4).choose_spec⟩
  | _, _, .tuple h1 h2 h3 h4 => ⟨_, .tuple h1 h2 h3 (RdEs.reads h4).choose_spec⟩
  | _, _, .dict h1 h2 h3 h4 => ⟨_, .dict h1 h2 h3 ReadsAll.nil ReadsAll.nil⟩
theorem RdEs.reads {h : Heap} : ∀ {v : List Value} {d : List D}, RdEs h v d → ∃ as, ReadsAll h v d as
  | _, _, .nil => ⟨_, .nil⟩
  | _, _, .cons r rs => ⟨_, .cons (RdE.reads r).choose_spec (RdEs.reads rs).choose_spec⟩
end
section
variable {prog : Program} {w : World} {h₀ : Heap}
mutual
theorem RdE.reprK : ∀ {v : Value} {d : D}, RdE h₀ v d → d.showable = true → d.shown.length ≤ sizeLine → ∃ bs, ReadAtMost h₀ d.depth bs ∧ ReprK prog w bs h₀ d.depth v d.shown
  | _, _, .none, _, _ => ⟨[], (fun _ h => nomatch h), by simp only [PyData.shown]; exact .of_is ReprIs.none _ _ _⟩
  | _, _, .bool b, _, _ => ⟨[], (fun _ h => nomatch h), by simp only [PyData.shown]; exact .of_is (ReprIs.bool b) _ _ _⟩
  | _, _, .int i t, hs, _ => ⟨[], (fun _ h => nomatch h), by simp only [PyData.shown]; exact .of_is (ReprIs.int t (by simpa [PyData.showable] using hs)) _ _ _⟩
  | _, _, .str x t, _, hz => ⟨[], (fun _ h => nomatch h), by simp only [PyData.shown]; exact .of_is (ReprIs.str x t (by simpa only [PyData.shown] using hz)) _ _ _⟩
  | _, _, .list (a := a) (vs := vs) (xs := xs) h1 h2 h3 h4, hs, hz => by
    have hz' : (listText (PyData.shownAll xs)).length ≤ sizeLine := by simpa only [PyData.shown] using hz
    obtain ⟨bs, hb, hk⟩ := RdEs.reprK h4 (by simpa [PyData.showable] using hs) (fun t ht => Nat.le_trans (listText_mem_le ht) hz')
    obtain ⟨as, r⟩ := RdE.reads (.list h1 h2 h3 h4)
    have hna : a ∉ bs := not_mem_of_deeper r (by simp only [PyData.depth]; omega) hb
    refine ⟨a :: bs, ReadAtMost.cons r (by simp only [PyData.depth]; omega) hb, ?_⟩
    simp only [PyData.depth, PyData.shown]
    obtain ⟨l⟩ := vs
    cases l with
    | nil =>
      have h4' : RdEs h₀ [] xs := h4
      cases h4'
      simp only [PyData.shownAll, listText_nil]
      exact ReprK.listEmpty h1 h2 h3
    | cons x l => exact ReprK.list h1 h2 h3 hna (by simpa using hk.length_eq) (fun i y e => hk.item i y (by simpa using e))
  | _, _, .tuple (a := a) (xs := xs) h1 h2 h3 h4, hs, hz => by
    have hz' : (tupleText (PyData.shownAll xs)).length ≤ sizeLine := by simpa only [PyData.shown] using hz
    obtain ⟨bs, hb, hk⟩ := RdEs.reprK h4 (by simpa [PyData.showable] using hs) (fun t ht => Nat.le_trans (tupleText_mem_le ht) hz')
    obtain ⟨as, r⟩ := RdE.reads (.tuple h1 h2 h3 h4)
    have hna : a ∉ bs := not_mem_of_deeper r (by simp only [PyData.depth]; omega) hb
    refine ⟨a :: bs, ReadAtMost.cons r (by simp only [PyData.depth]; omega) hb, ?_⟩
    simp only [PyData.depth, PyData.shown]
    exact ReprK.tuple h1 h2 h3 hna hk
  | _, _, .dict (a := a) h1 h2 h3 h4, hs, hz => by
    obtain ⟨as, r⟩ := RdE.reads (.dict h1 h2 h3 h4)
    refine ⟨[a], ReadAtMost.cons (n := 0) r (Nat.zero_le _) (fun _ h => absurd h List.not_mem_nil), ?_⟩
    simp only [PyData.depth, PyData.shown]
    exact ReprK.dict h1 h2 h3 h4 List.not_mem_nil .nil
theorem RdEs.reprK : ∀ {vs : List Value} {ds : List D}, RdEs h₀ vs ds → PyData.showableAll ds = true → (∀ t ∈ PyData.shownAll ds, t.length ≤ sizeLine) →
    ∃ bs, ReadAtMost h₀ (PyData.depthAll ds) bs ∧ ReprAllK prog w bs h₀ (PyData.depthAll ds) vs (PyData.shownAll ds)
  | _, _, .nil, _, _ => ⟨[], (fun _ h => nomatch h), by simp only [PyData.shownAll]; exact .nil⟩
  | _, _, .cons (d := d) (ds := ds) r rs, hs, hz => by
    have hs' : d.showable = true ∧ PyData.showableAll ds = true := by simpa [PyData.showableAll] using hs
    obtain ⟨b1, hb1, k1⟩ := RdE.reprK r hs'.1 (hz _ (by simp only [PyData.shownAll]; exact List.mem_cons_self ..))
    obtain ⟨b2, hb2, k2⟩ := RdEs.reprK rs hs'.2 (fun t ht => hz t (by simp only [PyData.shownAll]; exact List.mem_cons_of_mem _ ht))
    refine ⟨b1 ++ b2, (hb1.mono ?_).append (hb2.mono ?_), ?_⟩
    · simp only [PyData.depthAll]; exact Nat.le_max_left _ _
    · simp only [PyData.depthAll]; exact Nat.le_max_right _ _
    · simp only [PyData.depthAll, PyData.shownAll]
      exact .cons ((k1.more fun b hb => List.mem_append_left _ hb).level_le (Nat.le_max_left _ _)) (k2.more_le (fun b hb => List.mem_append_right _ hb) (Nat.le_max_right _ _))
end
theorem showsE {a : Addr} {d : D} (r : RdE h₀ (.ref a) d) (hs : d.showable = true) (hsz : d.shown.length ≤ sizeLine) : ∃ T idr, ShowsBy prog w h₀ a d T idr := by
  cases r with
  | list h1 h2 h3 h4 =>
    rename_i o vs n xs
    have hz' : (listText (PyData.shownAll xs)).length ≤ sizeLine := by simpa only [PyData.shown] using hsz
    obtain ⟨bs, hb, hk⟩ := RdEs.reprK (prog := prog) (w := w) h4 (by simpa [PyData.showable] using hs) (fun t ht => Nat.le_trans (listText_mem_le ht) hz')
    obtain ⟨as, r⟩ := RdE.reads (.list h1 h2 h3 h4)
    have hna : a ∉ bs := not_mem_of_deeper r (by simp only [PyData.depth]; omega) hb
    refine ⟨"list", "list.__repr__", PySem.F.slot_list_repr.toG, PySem.F.slot_list_str, PySem.F.slot_list_format, fun s hk0 => ⟨o, hk0 _ _ h1, h2⟩, fun A E s Q hg hu hk0 hQ => ?_⟩
    simp only [PyData.depth] at hu
    simp only [PyData.shown] at hQ
    obtain ⟨l⟩ := vs
    cases l with
    | nil =>
      have h4' : RdEs h₀ [] xs := h4
      cases h4'
      simp only [PyData.shownAll, listText_nil] at hQ
      exact call_list_repr_empty ⟨o, hk0 _ _ h1, h2⟩ (hk0 _ _ h1) h3 (hQ s.heap _ _ fun _ _ e => e)
    | cons x l =>
      exact call_list_reprK h1 h2 h3 hna (by simpa using hk.length_eq) (fun i y e => hk.item i y (by simpa using e)) hg (fun b _ => Clear.nil b) hu hk0 hQ hz'
  | tuple h1 h2 h3 h4 =>
    rename_i o vs n xs
    have hz' : (tupleText (PyData.shownAll xs)).length ≤ sizeLine := by simpa only [PyData.shown] using hsz
    obtain ⟨bs, hb, hk⟩ := RdEs.reprK (prog := prog) (w := w) h4 (by simpa [PyData.showable] using hs) (fun t ht => Nat.le_trans (tupleText_mem_le ht) hz')
    obtain ⟨as, r⟩ := RdE.reads (.tuple h1 h2 h3 h4)
    have hna : a ∉ bs := not_mem_of_deeper r (by simp only [PyData.depth]; omega) hb
    refine ⟨"tuple", "tuple.__repr__", PySem.F.slot_tuple_repr, PySem.F.slot_tuple_str, PySem.F.slot_tuple_format, fun s hk0 => ⟨o, hk0 _ _ h1, h2⟩, fun A E s Q hg hu hk0 hQ => ?_⟩
    simp only [PyData.depth] at hu
    simp only [PyData.shown] at hQ
    exact call_tuple_reprK h1 h2 h3 hna hk hg (fun b _ => Clear.nil b) hu hk0 hQ hz'
  | dict h1 h2 h3 h4 =>
    rename_i o n
    refine ⟨"dict", "dict.__repr__", PySem.F.slot_dict_repr, PySem.F.slot_dict_str, PySem.F.slot_dict_format, fun s hk0 => ⟨o, hk0 _ _ h1, h2⟩, fun A E s Q hg hu hk0 hQ => ?_⟩
    simp only [PyData.depth] at hu
    simp only [PyData.shown] at hQ hsz
    exact call_dict_reprK (as := []) (ps := []) h1 h2 h3 h4 List.not_mem_nil .nil hg (fun b _ => Clear.nil b) hu hk0 hQ hsz
end
mutual
inductive DpE (K : PySem.W.Frag) (H : Hp) : V → D → Prop
  | non : DpE K H .non .none
  | bl (b : Bool) : DpE K H (.bl b) (.bool b)
  | int (i : Int) : DpE K H (.int i) (.int i)
  | str (x : Str) : DpE K H (.str x) (.str x)
  | lst {a : Addr} {xs : List V} {ds : List D} : SqL K H a xs → DpEs K H xs ds → DpE K H (.ref a) (.list ds)
  | tup {a : Addr} {xs : List V} {ds : List D} : SqT K H a xs → DpEs K H xs ds → DpE K H (.ref a) (.tuple ds)
  | emp {a : Addr} : EmptyD H a → DpE K H (.ref a) (.dict [])
inductive DpEs (K : PySem.W.Frag) (H : Hp) : List V → List D → Prop
  | nil : DpEs K H [] []
  | cons {v : V} {vs : List V} {d : D} {ds : List D} : DpE K H v d → DpEs K H vs ds → DpEs K H (v :: vs) (d :: ds)
end
section
variable {X : Cx} {pins : List (Addr × Obj)} {σ : L2.St} {H : Hp} {s : Shared}
mutual
theorem DpE.rd (I : Inv X pins σ H s) : ∀ {d : D} {v : V} {u : Value}, DpE X.K H v d → RelV v u → RdE s.heap u d
  | _, _, _, .non, r => by cases r; exact .none
  | _, _, _, .bl b, r => by cases r; exact .bool b
  | _, _, _, .int i, r => by obtain ⟨t, rfl⟩ := r; exact .int i t
  | _, _, _, .str x, r => by obtain ⟨t, rfl⟩ := r; exact .str x t
  | _, _, _, .lst hs ha, r => by
    cases r
    obtain ⟨its, rv, ⟨o, n, ho, hc, _, hd⟩, _⟩ := I.list hs
    exact .list ho hc hd (DpEs.rd I ha rv)
  | _, _, _, .tup hs ha, r => by
    cases r
    obtain ⟨its, rv, ⟨o, ho, hc, n, hd⟩, _⟩ := I.tuple hs
    exact .tuple ho hc hd (DpEs.rd I ha rv)
  | _, _, _, .emp e, r => by
    cases r
    obtain ⟨hs, ⟨ob, es, ep, h1, h2, h3, h4, h5, h6⟩, _⟩ := empty_both (P := X.prog) (w := X.w) I.hok e
    have e0 : es = #[] := by
      refine Array.toList_inj.mp ?_
      cases hh : es.toList with
      | nil => rfl
      | cons x r => rw [hh] at h5; cases h5
    subst e0
    exact .dict h1 h2.1 h3 hs
theorem DpEs.rd (I : Inv X pins σ H s) : ∀ {ds : List D} {vs : List V} {us : List Value}, DpEs X.K H vs ds → Vals vs us → RdEs s.heap us ds
  | _, _, _, .nil, r => by cases r; exact .nil
  | _, _, _, .cons h1 h2, r => by
    cases r with
    | cons r1 r2 => exact .cons (DpE.rd I h1 r1) (DpEs.rd I h2 r2)
end
end
theorem empD {K : PySem.W.Frag} {F H : Hp} (le : Same F H) {a : Addr} {es : List (D × D)} (h : Dt K F (.ref a) (.dict es)) (e : es = []) : EmptyD H a := by
  subst e
  cases h with
  | dK h1 h2 => cases h2; exact .inl (.inr ⟨_, le _ _ h1⟩)
  | dT h1 h3 h2 => cases h2; exact .inr ⟨_, .inr ⟨_, le _ _ h1⟩, h3.mono le⟩
mutual
theorem Dt.dpE {K : PySem.W.Frag} {F H : Hp} (le : Same F H) : ∀ {v : V} {d : D}, Dt K F v d → canE d = true → DpE K H v d
  | _, _, .non, _ => .non
  | _, _, .bl b, _ => .bl b
  | _, _, .int i, _ => .int i
  | _, _, .str x, _ => .str x
  | _, _, .lst h hs, c => .lst (SqL.of (le _ _ h)) (DtL.dpE le hs c)
  | _, _, .tup h hs, c => .tup (h.mono le).sq (DtL.dpE le hs c)
  | _, _, .dK (es := es) h1 h2, c => by
    have e : es = [] := List.isEmpty_iff.mp c
    subst e
    exact .emp (empD (K := K) le (.dK h1 h2) rfl)
  | _, _, .dT (es := es) h1 h3 h2, c => by
    have e : es = [] := List.isEmpty_iff.mp c
    subst e
    exact .emp (empD (K := K) le (.dT h1 h3 h2) rfl)
theorem DtL.dpE {K : PySem.W.Frag} {F H : Hp} (le : Same F H) : ∀ {vs : List V} {ds : List D}, DtL K F vs ds → canEAll ds = true → DpEs K H vs ds
  | _, _, .nil, _ => .nil
  | _, _, .cons (d := d) (ds := ds) h t, c => by
    have c' : canE d = true ∧ canEAll ds = true := Bool.and_eq_true_iff.mp c
    exact .cons (Dt.dpE le h c'.1) (DtL.dpE le t c'.2)
end
theorem Nw.dpE {K : PySem.W.Frag} {F H : Hp} {v : V} {d : D} (h : Nw K F H v d) (le : Same F H) (c : canE d = true) : DpE K H v d := by
  rcases h with h | ⟨a, rfl, h⟩
  · exact h.dpE le c
  · cases d with
    | list ds =>
      obtain ⟨xs, h1, h2⟩ := h
      exact .lst (SqL.of h1) (h2.dpE le c)
    | dict es =>
      have e : es = [] := List.isEmpty_iff.mp c
      subst e
      rcases h with ⟨kvs, h1, h2⟩ | ⟨o, kvs, h1, h3, h2⟩
      · cases h2; exact .emp (.inl (.inl h1))
      · cases h2; exact .emp (.inr ⟨_, .inl h1, h3.mono le⟩)
    | _ => exact h.elim
def rRepr (K : PySem.W.Frag) : List V → Hp → VK → Prop := fun xs H Q => ∃ x d, xs = [x] ∧ DpE K H x d ∧ reprOk d = true ∧ Q (.str d.shown) H
theorem cr_repr {X : Cx} (hu : X.A.units + 70 < cLine) (hG : X.A.guards = some []) : CallR X (.builtin "repr") (rRepr X.K) := fun pins s σ H xs us Q I r h => by
  obtain ⟨x, d, rfl, hd, ok, q⟩ := h
  obtain ⟨u, rfl, rx⟩ := vals1 r
  unfold reprOk at ok
  rw [Bool.and_eq_true, Bool.and_eq_true, Bool.and_eq_true] at ok
  obtain ⟨⟨⟨h1, h2⟩, h3⟩, h4⟩ := ok
  have h3 := of_decide_eq_true h3
  have h4 : d.shown.length ≤ sizeLine := by rw [sizeLine_eq]; exact of_decide_eq_true h4
  have rd := DpE.rd I hd rx
  have fin : ∀ (h' : Heap) (t tk : Nat), (∀ b o, s.heap.get? b = some o → h'.get? b = some o) → EP X pins σ Q (.str d.shown t) { s with heap := h', toks := tk } := fun h' t tk hk => ⟨.str _, H, I.kept (t' := tk) hk, ⟨_, rfl⟩, q⟩
  have big : ∀ (a : Addr), RdE s.heap (.ref a) d → wpAny (model X.prog X.w) X.A (call (.builtin "repr") [.ref a]) (EP X pins σ Q) (fun _ _ => False) s := fun a rd => by
    obtain ⟨T, idr, S⟩ := showsE (prog := X.prog) (w := X.w) rd h2 h4
    exact call_repr_slot (by omega) (S.typeIs s fun _ _ e => e) S.slotRepr (S.call X.A.in1 _ s _ hG (by show X.A.units + 1 + d.depth < cLine; omega) (fun _ _ e => e) fun h' u tk hk => ⟨_, _, rfl, fin h' u tk hk⟩)
  cases rd with
  | none => exact PySem.P.repr_of_none (fin _ _ _ fun _ _ e => e)
  | bool b => exact PySem.P.repr_of_bool (fin _ _ _ fun _ _ e => e)
  | int i t => exact PySem.P.repr_of_int (of_decide_eq_true (by simpa [PyData.showable] using h2)) (fin _ _ _ fun _ _ e => e)
  | str y t => exact PySem.P.repr_of_str (fin _ _ _ fun _ _ e => e) h4
  | list a1 a2 a3 a4 => exact wpAny_mono (big _ (.list a1 a2 a3 a4)) (fun _ _ x => x) fun _ _ x => x.elim
  | tuple a1 a2 a3 a4 => exact wpAny_mono (big _ (.tuple a1 a2 a3 a4)) (fun _ _ x => x) fun _ _ x => x.elim
  | dict a1 a2 a3 a4 => exact wpAny_mono (big _ (.dict a1 a2 a3 a4)) (fun _ _ x => x) fun _ _ x => x.elim
def gRepr : List D → (D → Prop) → Prop
  | [d], Q => reprOk d = true ∧ Q (.str d.shown)
  | _, _ => False
theorem reprOk_lay {d : D} (h : reprOk d = true) : canE d = true := by
  unfold reprOk at h
  rw [Bool.and_eq_true, Bool.and_eq_true, Bool.and_eq_true] at h
  exact h.1.1.1
theorem cs_repr {K : PySem.W.Frag} : CSem K (rRepr K) gRepr := fun {sx F H vs ds Q R} b h hg k => by
  unfold gRepr at hg
  split at hg
  · obtain ⟨v, rfl, h1⟩ := Nws.one h
    exact ⟨v, _, rfl, h1.dpE b.le (reprOk_lay hg.1), hg.1, k.now b hg.2 (.str _)⟩
  · exact hg.elim

/-! ### sums, greatest, least, of lists of ints -/
def intsOf : List D → Option (List Int)
  | [] => some []
  | .int i :: r => (intsOf r).map (i :: ·)
  | _ :: _ => none
theorem intsOf_some : ∀ {ds : List D} {ns : List Int}, intsOf ds = some ns → ds = ns.map PyData.int
  | [], ns, h => by cases h; rfl
  | d :: r, ns, h => by
    cases d <;> first | (cases h; done) | skip
    rename_i i
    cases q : intsOf r with
    | none => rw [intsOf, q] at h; cases h
    | some ms =>
      rw [intsOf, q] at h
      cases h
      rw [intsOf_some q]
      rfl
theorem intsOf_map (ns : List Int) : intsOf (ns.map PyData.int) = some ns := by
  induction ns with
  | nil => rfl
  | cons n ns ih => rw [List.map_cons, intsOf, ih]; rfl
def gSum : List D → (D → Prop) → Prop
  | [.list ds], Q => ∃ ns, intsOf ds = some ns ∧ Q (.int ns.sum)
  | [.tuple ds], Q => ∃ ns, intsOf ds = some ns ∧ Q (.int ns.sum)
  | _, _ => False
def gMaxL : List D → (D → Prop) → Prop
  | [.list ds], Q => ∃ ns, intsOf ds = some ns ∧ 0 < ns.length ∧ ∀ m, m ∈ ns → (∀ y, y ∈ ns → y ≤ m) → Q (.int m)
  | _, _ => False
def gMinL : List D → (D → Prop) → Prop
  | [.list ds], Q => ∃ ns, intsOf ds = some ns ∧ 0 < ns.length ∧ ∀ m, m ∈ ns → (∀ y, y ∈ ns → m ≤ y) → Q (.int m)
  | _, _ => False
theorem cs_max {K : PySem.W.Frag} : CSem K (rMax K) gMaxL := fun {sx F H vs ds Q R} b h hg k => by
  unfold gMaxL at hg
  split at hg
  · obtain ⟨v, rfl, h1⟩ := Nws.one h
    obtain ⟨a, xs, rfl, h2, h3⟩ := h1.list b.le
    obtain ⟨ns, e, l, q⟩ := hg
    rw [intsOf_some e] at h3
    rw [h3.intsV] at h2
    exact ⟨a, ns, rfl, SqL.of h2, l, fun m hm hy => k.now b (q m hm hy) (.int _)⟩
  · exact hg.elim
theorem cs_min {K : PySem.W.Frag} : CSem K (rMin K) gMinL := fun {sx F H vs ds Q R} b h hg k => by
  unfold gMinL at hg
  split at hg
  · obtain ⟨v, rfl, h1⟩ := Nws.one h
    obtain ⟨a, xs, rfl, h2, h3⟩ := h1.list b.le
    obtain ⟨ns, e, l, q⟩ := hg
    rw [intsOf_some e] at h3
    rw [h3.intsV] at h2
    exact ⟨a, ns, rfl, SqL.of h2, l, fun m hm hy => k.now b (q m hm hy) (.int _)⟩
  · exact hg.elim
def gSumL : List D → (D → Prop) → Prop
  | [.list ds], Q => ∃ ns, intsOf ds = some ns ∧ Q (.int ns.sum)
  | _, _ => False
theorem cs_sum {K : PySem.W.Frag} : CSem K (rSum K) gSumL := fun {sx F H vs ds Q R} b h hg k => by
  unfold gSumL at hg
  split at hg
  · obtain ⟨v, rfl, h1⟩ := Nws.one h
    obtain ⟨a, xs, rfl, h2, h3⟩ := h1.list b.le
    obtain ⟨ns, e, q⟩ := hg
    rw [intsOf_some e] at h3
    rw [h3.intsV] at h2
    exact ⟨a, ns, rfl, SqL.of h2, k.now b q (.int _)⟩
  · exact hg.elim
def boolsOf : List D → Option (List Bool)
  | [] => some []
  | .bool i :: r => (boolsOf r).map (i :: ·)
  | _ :: _ => none
theorem boolsOf_some : ∀ {ds : List D} {ns : List Bool}, boolsOf ds = some ns → ds = ns.map PyData.bool
  | [], ns, h => by cases h; rfl
  | d :: r, ns, h => by
    cases d <;> first | (cases h; done) | skip
    rename_i i
    cases q : boolsOf r with
    | none => rw [boolsOf, q] at h; cases h
    | some ms =>
      rw [boolsOf, q] at h
      cases h
      rw [boolsOf_some q]
      rfl
theorem DtL.boolsV {K : PySem.W.Frag} {F : Hp} : ∀ {vs : List V} {ns : List Bool}, DtL K F vs (ns.map PyData.bool) → vs = ns.map V.bl
  | _, [], h => by cases h; rfl
  | _, n :: ns, h => by
    cases h with
    | cons a t =>
      cases a
      rw [t.boolsV]; rfl
def gAll : List D → (D → Prop) → Prop
  | [.list ds], Q => ∃ ns, boolsOf ds = some ns ∧ Q (.bool (ns.all id))
  | _, _ => False
def gAny : List D → (D → Prop) → Prop
  | [.list ds], Q => ∃ ns, boolsOf ds = some ns ∧ Q (.bool (ns.any id))
  | _, _ => False
theorem cs_all {K : PySem.W.Frag} : CSem K (rAll K) gAll := fun {sx F H vs ds Q R} b h hg k => by
  unfold gAll at hg
  split at hg
  · obtain ⟨v, rfl, h1⟩ := Nws.one h
    obtain ⟨a, xs, rfl, h2, h3⟩ := h1.list b.le
    obtain ⟨ns, e, q⟩ := hg
    rw [boolsOf_some e] at h3
    rw [h3.boolsV] at h2
    exact ⟨a, ns, rfl, SqL.of h2, k.now b q (.bl _)⟩
  · exact hg.elim
theorem cs_any {K : PySem.W.Frag} : CSem K (rAny K) gAny := fun {sx F H vs ds Q R} b h hg k => by
  unfold gAny at hg
  split at hg
  · obtain ⟨v, rfl, h1⟩ := Nws.one h
    obtain ⟨a, xs, rfl, h2, h3⟩ := h1.list b.le
    obtain ⟨ns, e, q⟩ := hg
    rw [boolsOf_some e] at h3
    rw [h3.boolsV] at h2
    exact ⟨a, ns, rfl, SqL.of h2, k.now b q (.bl _)⟩
  · exact hg.elim
end W2

set_option Elab.async false
set_option linter.all false
set_option maxRecDepth 100000
/-! W2V: what yields new tuples: enumerate, zip, items. -/
namespace W2
open PySem PySem.Spec PyProof.Rows L2

/-- at each turn a new tuple -/
def ItT (Fz : Hp → Prop) (n : Nat) (G : Hp → Nat → List V → Prop) : It :=
  ⟨fun i H => Fz H ∧ i < n, fun i H x H' => ∃ T vs o, x = .ref T ∧ H T = none ∧ o.dict = none ∧ H' = upd H T (.frz o (.tup vs)) ∧ G H i vs, fun i H => Fz H ∧ i = n⟩
theorem turn_T {P : Program} {w : World} {K : PySem.W.Frag} {elts : List Expr} {kk : Nat} {tpos : Pos} {Y : Type} {I : Addr} {wr : List Addr} {n : Nat} {fp : Y → List Addr} {nY : Y → Nat} {Pt : Y → Nat → Array Value → Prop} {St : Y → Nat → Heap → Prop} {Mid : Y → Nat → Addr → Heap → Prop} {Itr : Nat → Heap → Prop} {Sc : Y → Heap → Prop} {Fz : Hp → Prop} {G : Hp → Nat → List V → Prop}
    (W : ∀ (y : Y) (A : Around), A.handled = none → WalksT P w A I (fp y) wr (nY y) (Pt y) (St y) (Mid y)) (hpl : ∀ y i T h, Mid y i T h → ∃ o, h.get? T = some o ∧ o.dict = none) (hst : ∀ y i h, Itr i h → Sc y h → St y i h) (hts : ∀ y i h, St y i h → Itr i h) (hI : I ∈ wr)
    (hobj : ∀ i h, Itr i h → ∀ b ∈ wr, ∃ o, h.get? b = some o ∧ ∀ v, o.data ≠ .cell v) (hkeep : ∀ i h h', Itr i h → (∀ b ∈ wr, ∀ o, h.get? b = some o → h'.get? b = some o) → Itr i h')
    (hsrc : ∀ (X : Cx) (pins : List (Addr × Obj)) (σ : L2.St) (H : Hp) (s : Shared), X.prog = P → X.w = w → X.K = K → Inv X pins σ H s → Fz H →
      ∃ y, Sc y s.heap ∧ nY y = n ∧ ∀ i vals, i < n → Pt y i vals → ∃ vs, Vals vs vals.toList ∧ G H i vs ∧ vs.length ≤ 1000)
    (hself : ∀ (A : Around) (i : Nat) (s : Shared) (Q : Value → Shared → Prop) (E : Value → Shared → Prop), Itr i s.heap → Q (.ref I) s → wpAny (model P w) A (pyIter (.ref I)) Q E s) :
    Turn P w K (.Tuple elts kk tpos) (ItT Fz n G) wr I Itr where
  mem := hI
  obj := hobj
  keep := hkeep
  item := by
    intro X hP hw hK hc i pins s σ H E Iv hf st hg
    obtain ⟨y, hs, hn, hval⟩ := hsrc X pins σ H s hP hw hK Iv hg.1
    have WX := W y X.A (Iv.ok.hd hc)
    refine WX.item i s _ _ (by rw [hn]; exact hg.2) (hst y _ _ st hs) fun T vals h' tk hp hT ht hm hk => ?_
    obtain ⟨vs, hv, hG, hl⟩ := hval i vals hg.2 hp
    refine ⟨_, rfl, WX.go elts kk tpos i T { s with heap := h', toks := tk } _ _ hm fun h'' st' hk' => ?_⟩
    have hTw := WX.apart i T h' hm
    obtain ⟨o, ho, hcl, m, hd⟩ := ht
    have ho' : h''.get? T = some o := hk' T o hTw ho
    obtain ⟨o2, ho2, dn⟩ := hpl y i T h' hm
    rw [ho] at ho2; cases ho2
    have new : ObjOk X.prog X.w (upd H T (.frz o (.tup vs))) h'' T (.frz o (.tup vs)) := tup_ok (its := vals.toList) ho' hcl (n := m) (by rw [hd, Array.toArray_toList]) hv (Nat.le_trans hl (by decide))
    have I1 : Inv X pins σ (upd H T (.frz o (.tup vs))) { s with heap := h'', toks := tk } := Iv.turnedNew (ch := wr) (fun b ob hb e => hk' b ob hb (hk b ob hb e)) hf hT new
    have nw : ∀ b ∈ wr, b ≠ T := fun b hb z => hTw (z ▸ hb)
    exact ⟨.ref T, _, I1, rfl, ⟨T, vs, o, rfl, Iv.hok.fresh hT, dn, rfl, hG⟩, hts y _ _ st', fun b hb => by rw [upd_ne (nw b hb)]; exact (hf b hb).1⟩
  done := by
    intro X hP hw hK hc i pins s σ H E Iv hf st hg
    obtain ⟨hg, rfl⟩ := hg
    obtain ⟨y, hs, hn, _⟩ := hsrc X pins σ H s hP hw hK Iv hg
    have WX := W y X.A (Iv.ok.hd hc)
    rw [hn] at WX
    exact WX.done s _ _ (hst y _ _ st hs) fun h' tk hk => ⟨rfl, Iv.turnedL hk hf⟩
  self := hself
/-! ### enumerate(x), a list's or a tuple's places -/
abbrev NoDict (h : Heap) (T : Addr) : Prop := ∃ o, h.get? T = some o ∧ o.dict = none
theorem enumX {prog : Program} {w : World} {A : Around} {it : Addr} {fp : List Addr} {n : Nat} {P : Nat → Value → Prop} {St : Nat → Heap → Prop} (k : Int) (D : Draws prog w A.in1 it fp n P St) (e : Addr) (h1 : e ≠ it) (h2 : e ∉ fp) (h3 : it ∈ fp) :
    WalksT prog w A e (e :: fp) [e, it] n (fun i vals => ∃ t x, P i x ∧ vals = #[.int (k + (i : Int)) t, x]) (fun i h => (∃ old, IsEnum h e it (k + (i : Int)) old) ∧ St i h) (fun i T h => ((∃ x, IsEnumOut h e it (k + (i : Int) + 1) x T) ∧ St (i + 1) h ∧ T ≠ e ∧ T ≠ it) ∧ NoDict h T) :=
  have W := WalksT.enumFrom k D e h1 h2 h3
  { sub := W.sub, frame := W.frame, go := fun elts kk pos i T s Q E hm hQ => W.go elts kk pos i T s Q E hm.1 hQ, apart := fun i T h hm => W.apart i T h hm.1, done := W.done, self := W.self,
    item := fun i s Q E hi ⟨⟨old, he⟩, hs⟩ hQ => wpAny_pyNext_enum_itemC D he hs hi h1 h2 fun x g tk hP ho hs' hT _ hk => by
      have l2 : it < s.heap.objs.size := by obtain ⟨_, y⟩ := D.live _ _ hs; exact Heap.lt_size y
      exact hQ _ _ g (tk + 1) ⟨_, _, hP, rfl⟩ (Nat.le_refl _) ⟨_, hT, rfl, _, rfl⟩ ⟨⟨⟨_, ho⟩, hs', Nat.ne_of_gt (Heap.lt_size he), Nat.ne_of_gt l2⟩, _, hT, rfl⟩ fun b o hb y => hk b o (fun z => hb (by simp [z])) (fun z => hb (by simp [z])) y }
set_option maxHeartbeats 1000000 in
theorem meets_enum1 {v : Value} {o : Obj} {H : Heap → Prop} (B : Begins v o H) : Meets (Builtin.«enumerate.__new__» ⟨[.type "enumerate", v], []⟩) (fun _ R s => H s.heap ∧
    R (.ok (.ret (.ref (s.heap.push o).objs.size))) { s with heap := (s.heap.push o).push { cls := .type "enumerate", data := .fields #[.none, .bool false, .ref s.heap.objs.size, rawInt 0, .none, .none] } }) :=
  .of_wp fun prog w A R s h => by
    obtain ⟨hp, g, d, tk, os⟩ := s
    obtain ⟨h1, h⟩ := h
    have hsub := sub_enumerate
    have q1 : ∀ {A' : Around} {E : Value → Shared → Prop} {Q : Value → Shared → Prop}, Q (.ref hp.objs.size) ⟨hp.push o, g, d, tk, os⟩ → wpAny (model prog w) A' (pyIter v) Q E ⟨hp, g, d, tk, os⟩ := fun q => B.iter prog w _ _ ⟨hp, g, d, tk, os⟩ _ h1 q
    wp_walk using q1
    refine wpAny_stack_any fun st => wpAny_pure ?_
    split
    · rename_i c _ _ _ _ _
      cases (c == Value.type "enumerate") <;> (wp_walk using q1; exact ⟨_, rfl, h⟩)
    · wp_walk using q1
      exact ⟨_, rfl, h⟩
theorem call_enum1 {prog : Program} {w : World} {A : Around} {E : Value → Shared → Prop} {s : Shared} {v : Value} {o : Obj} {H : Heap → Prop} {Q : Value → Shared → Prop} (B : Begins v o H) (h1 : H s.heap)
    (h : ∀ h', IsEnum h' (s.heap.objs.size + 1) s.heap.objs.size 0 .none → h'.get? s.heap.objs.size = some o → (∀ b o, s.heap.get? b = some o → h'.get? b = some o) → Q (.ref (s.heap.objs.size + 1)) { s with heap := h' }) : wpAny (model prog w) A (call (.type "enumerate") [v]) Q E s := by
  refine callType_new PySem.F.called_enumerate (by decide) (PySem.F.typeCall_enumerate_1 _) (PySem.F.newCall_enumerate_1 _) (fun obj => PySem.F.args_object_init_2 obj _) PySem.F.entry_enumerate_new (meets_enum1 B) ⟨h1, ?_⟩
  have hz : (s.heap.push o).objs.size = s.heap.objs.size + 1 := Heap.size_push ..
  have he : IsEnum ((s.heap.push o).push { cls := .type "enumerate", data := .fields #[.none, .bool false, .ref s.heap.objs.size, rawInt 0, .none, .none] }) (s.heap.objs.size + 1) s.heap.objs.size 0 .none := by
    have q := Heap.get?_push_size (s.heap.push o) (o := { cls := .type "enumerate", data := .fields #[.none, .bool false, .ref s.heap.objs.size, rawInt 0, .none, .none] }) rfl
    rw [hz] at q
    exact q
  show _ ∧ _
  rw [hz]
  exact ⟨⟨_, he, rfl⟩, h _ he (Heap.get?_push_of_some _ (Heap.get?_push_size _ B.free)) fun b u z => Heap.get?_push_of_some _ (Heap.get?_push_of_some _ z)⟩
/-- the places of a list or a tuple -/
def EnG (items : Hp → List V → Prop) (H : Hp) (i : Nat) (vs : List V) : Prop := ∃ xs x, items H xs ∧ xs[i]? = some x ∧ vs = [.int (i : Nat), x]
def iEnumA (K : PySem.W.Frag) (ta : TA) : TI := fun σ H R => ta σ H fun us H1 => ∃ a xs, us = [.ref a] ∧
  ((SqL K H1 a xs ∧ R (ItT (fun H => SqL K H a xs) xs.length fun _ i vs => ∃ x, xs[i]? = some x ∧ vs = [.int (i : Nat), x]) H1) ∨ (SqT K H1 a xs ∧ R (ItT (fun H => SqT K H a xs) xs.length fun _ i vs => ∃ x, xs[i]? = some x ∧ vs = [.int (i : Nat), x]) H1))
theorem enum_obj {e it : Addr} {h : Heap} {c : Int} {old : Value} (he : IsEnum h e it c old) (hi : ∃ o, h.get? it = some o ∧ ∀ v, o.data ≠ .cell v) : ∀ b ∈ [e, it], ∃ o, h.get? b = some o ∧ ∀ v, o.data ≠ .cell v := fun b hb => by
  have hb' : b = e ∨ b = it := by simpa using hb
  rcases hb' with rfl | rfl
  · exact ⟨_, he, fun v q => nomatch q⟩
  · exact hi
theorem enum_val {K : PySem.W.Frag} {xs : List V} {its : List Value} (rv : Vals xs its) {i : Nat} {vals : Array Value} (h : ∃ t x, its.toArray[i]? = some x ∧ vals = #[.int (0 + (i : Int)) t, x]) : ∃ vs, Vals vs vals.toList ∧ (∃ x, xs[i]? = some x ∧ vs = [V.int (i : Nat), x]) ∧ vs.length ≤ 1000 := by
  obtain ⟨t, x, hx, rfl⟩ := h
  have hx' : its[i]? = some x := by simpa using hx
  have lt : i < xs.length := by rw [rv.length]; exact (List.getElem?_eq_some_iff.mp hx').1
  obtain ⟨u, hu, ru⟩ := rv.get (List.getElem?_eq_getElem lt)
  rw [hx'] at hu
  cases hu
  refine ⟨[.int (i : Nat), xs[i]], .cons ⟨t, ?_⟩ (.cons ru .nil), ⟨_, List.getElem?_eq_getElem lt, rfl⟩, by show 2 ≤ 1000; decide⟩
  rw [Int.zero_add]
theorem turn_enumL {P : Program} {w : World} {K : PySem.W.Frag} {elts : List Expr} {kk : Nat} {tpos : Pos} {e it a : Addr} {xs : List V} (hei : e ≠ it) (hea : e ≠ a) (hia : a ≠ it) :
    Turn P w K (.Tuple elts kk tpos) (ItT (fun H => SqL K H a xs) xs.length fun _ i vs => ∃ x, xs[i]? = some x ∧ vs = [.int (i : Nat), x]) [e, it] e (fun i h => (∃ old, IsEnum h e it (0 + (i : Int)) old) ∧ h.IsListIter it a i) :=
  turn_T (Y := List Value) (fp := fun _ => [e, it, a]) (nY := fun its => its.toArray.size) (Sc := fun its h => h.IsList a its.toArray) (W := fun its A hh => enumX 0 (Draws.list (A := A.in1) hh it a hia its.toArray) e hei (by simp [hei, hea]) (by simp)) (fun _ _ _ _ m => m.2) (fun _ i h x y => ⟨x.1, x.2, y⟩) (fun _ i h x => ⟨x.1, x.2.1⟩) (by simp)
    (fun i h ⟨⟨old, he⟩, ⟨o, ho, hc, hd⟩⟩ => enum_obj he ⟨o, ho, fun v q => by rw [hd] at q; cases q⟩)
    (fun i h h' ⟨⟨old, he⟩, hi⟩ k => ⟨⟨old, k e (by simp) _ he⟩, hi.at fun o q => k it (by simp) o q⟩)
    (fun X pins σ H s hP hw hK I hz => by
      subst hP hw hK
      obtain ⟨its, rv, p, _⟩ := I.list hz
      exact ⟨its, p.isList, by rw [List.size_toArray]; exact rv.length.symm, fun i vals _ h => enum_val (K := X.K) rv h⟩)
    (fun A i s Q E ⟨⟨old, he⟩, _⟩ q => wpAny_pyIter_enum he q)
theorem turn_enumT {P : Program} {w : World} {K : PySem.W.Frag} {elts : List Expr} {kk : Nat} {tpos : Pos} {e it a : Addr} {xs : List V} (hei : e ≠ it) (hea : e ≠ a) (hia : a ≠ it) :
    Turn P w K (.Tuple elts kk tpos) (ItT (fun H => SqT K H a xs) xs.length fun _ i vs => ∃ x, xs[i]? = some x ∧ vs = [.int (i : Nat), x]) [e, it] e (fun i h => (∃ old, IsEnum h e it (0 + (i : Int)) old) ∧ h.IsTupleIter it a i) :=
  turn_T (Y := List Value) (fp := fun _ => [e, it, a]) (nY := fun its => its.toArray.size) (Sc := fun its h => h.IsTuple a its.toArray) (W := fun its A hh => enumX 0 (Draws.tuple (A := A.in1) hh it a hia its.toArray) e hei (by simp [hei, hea]) (by simp)) (fun _ _ _ _ m => m.2) (fun _ i h x y => ⟨x.1, x.2, y⟩) (fun _ i h x => ⟨x.1, x.2.1⟩) (by simp)
    (fun i h ⟨⟨old, he⟩, ⟨o, ho, hc, hd⟩⟩ => enum_obj he ⟨o, ho, fun v q => by rw [hd] at q; cases q⟩)
    (fun i h h' ⟨⟨old, he⟩, hi⟩ k => ⟨⟨old, k e (by simp) _ he⟩, hi.at fun o q => k it (by simp) o q⟩)
    (fun X pins σ H s hP hw hK I hz => by
      subst hP hw hK
      obtain ⟨its, rv, p, _⟩ := I.tuple hz
      exact ⟨its, p, by rw [List.size_toArray]; exact rv.length.symm, fun i vals _ h => enum_val (K := X.K) rv h⟩)
    (fun A i s Q E ⟨⟨old, he⟩, _⟩ q => wpAny_pyIter_enum he q)
section
variable {X : Cx} {e : Expr} {te : TE} {we : WE} {ta : TA} {elts : List Expr} {kk : Nat} {tpos p pos apos cpos : Pos}
theorem pi_enumA (hg : Gl X "enumerate") (hm : X.mg "enumerate" = none) (ha : PA X [e] ta) (hs : starEach [e] X.env = [(false, eval e X.env)] := by rfl) : PI X (.Tuple elts kk tpos) (.Call (.Name "enumerate" p) [e] [] pos) (iEnumA X.K ta) := by
  refine ⟨fun pins s σ H R I h => Call_ (ld_blt I hg hm boot_enumerate (PyProof.Rows.callWith_type1 (thn (ha.run pos pins s σ H _ I h) fun us s1 ⟨vs, H1, I1, r1, q1⟩ => ?_) hs rfl))⟩
  obtain ⟨a, xs, rfl, q⟩ := q1
  obtain ⟨u, rfl, rx⟩ := vals1 r1
  cases rx
  have fpo : ∀ b ∈ [s1.heap.objs.size + 1, s1.heap.objs.size], FpOk X pins H1 b := fun b hb => by
    have e' : b = s1.heap.objs.size + 1 ∨ b = s1.heap.objs.size := by simpa using hb
    have hle : s1.heap.objs.size ≤ b := by rcases e' with z | z <;> omega
    exact I1.fpOk hle (I1.hok.fresh hle)
  rcases q with ⟨hq, q⟩ | ⟨hq, q⟩
  · obtain ⟨its, rv, p', hz⟩ := I1.list hq
    have lt : a < s1.heap.objs.size := by obtain ⟨o, ho, _⟩ := p'.isList; exact Heap.lt_size ho
    refine call_enum1 (begins_list a its.toArray) p'.isList fun h' he hit hk => wpAny_pyIter_enum he ?_
    exact ⟨_, [s1.heap.objs.size + 1, s1.heap.objs.size], _, _, H1, rfl, I1.kept (t' := s1.toks) hk, turn_enumL (e := s1.heap.objs.size + 1) (it := s1.heap.objs.size) (Nat.succ_ne_self _) (Nat.ne_of_gt (Nat.lt_succ_of_lt lt)) (Nat.ne_of_lt lt), ⟨⟨.none, he⟩, _, hit, rfl, rfl⟩, fpo, q⟩
  · obtain ⟨its, rv, p', hz⟩ := I1.tuple hq
    have pt : s1.heap.IsTuple a its.toArray := p'
    have lt : a < s1.heap.objs.size := by obtain ⟨o, ho, _⟩ := pt; exact Heap.lt_size ho
    refine call_enum1 (begins_tuple a its.toArray) pt fun h' he hit hk => wpAny_pyIter_enum he ?_
    exact ⟨_, [s1.heap.objs.size + 1, s1.heap.objs.size], _, _, H1, rfl, I1.kept (t' := s1.toks) hk, turn_enumT (e := s1.heap.objs.size + 1) (it := s1.heap.objs.size) (Nat.succ_ne_self _) (Nat.ne_of_gt (Nat.lt_succ_of_lt lt)) (Nat.ne_of_lt lt), ⟨⟨.none, he⟩, _, hit, rfl, rfl⟩, fpo, q⟩
/-- a new tuple of frozen values -/
theorem it_T {K : PySem.W.Frag} {sx : Sx} {F : Hp} {Fz : Hp → Prop} {n : Nat} {G : Hp → Nat → List V → Prop} {ds : List (List D)} (hn : ds.length = n) (hz : ∀ F' H', Same F F' → Base sx F' H' → Fz H')
    (hG : ∀ {F' H' : Hp} {i : Nat} {vs : List V} {es : List D}, Same F F' → Base sx F' H' → ds[i]? = some es → G H' i vs → ∃ F'', Ext2 sx F' H' F'' H' ∧ DtL K F'' vs es) : ItOk K sx F (ItT Fz n G) (ds.map PyData.tuple) where
  go := fun s b hi => ⟨hz _ _ s b, by rw [← hn]; simpa using hi⟩
  yld := fun {F' H' H'' i x d} s b hi y => by
    obtain ⟨T, vs, o, rfl, hT, hno, rfl, g⟩ := y
    rw [List.getElem?_map] at hi
    cases q : ds[i]? with
    | none => rw [q] at hi; cases hi
    | some es =>
      rw [q] at hi
      cases hi
      obtain ⟨F1, e1, hd⟩ := hG s b q g
      have e2 := Ext2.new (o := .frz o (.tup vs)) (e1.base b) hT
      exact ⟨_, e1.trans e2, .tup ⟨o, hno, upd_same⟩ (hd.mono e2.sF)⟩
  stop := fun s b => ⟨hz _ _ s b, by rw [List.length_map, hn]⟩
def enumD (ds : List D) : List (List D) := (ds.zipIdx).map fun p => [.int (p.2 : Nat), p.1]
theorem enumD_get {ds : List D} {i : Nat} {es : List D} (h : (enumD ds)[i]? = some es) : ∃ d, ds[i]? = some d ∧ es = [.int (i : Nat), d] := by
  unfold enumD at h
  rw [List.getElem?_map, List.getElem?_zipIdx] at h
  cases q : ds[i]? with
  | none => rw [q] at h; cases h
  | some d =>
    rw [q] at h
    cases h
    exact ⟨d, rfl, by simp⟩
theorem enumD_len (ds : List D) : (enumD ds).length = ds.length := by simp [enumD]
def wEnum (we : WE) : WI := fun η Q => we η fun d => match d with
  | .list ds => Q ((enumD ds).map PyData.tuple)
  | .tuple ds => Q ((enumD ds).map PyData.tuple)
  | _ => False
theorem en_dt {K : PySem.W.Frag} {F F' : Hp} {xs : List V} {ds : List D} (h : DtL K F xs ds) (s : Same F F') {i : Nat} {vs : List V} {es : List D} (he : (enumD ds)[i]? = some es) (g : ∃ x, xs[i]? = some x ∧ vs = [V.int (i : Nat), x]) : DtL K F' vs es := by
  obtain ⟨d, hd, rfl⟩ := enumD_get he
  obtain ⟨x, hx, rfl⟩ := g
  obtain ⟨v, hv, hh⟩ := h.get i hd
  rw [hx] at hv
  cases hv
  exact .cons (.int _) (.cons (hh.mono s) .nil)
theorem di_enum (hg : Gl X "enumerate") (hm : X.mg "enumerate" = none) (he : DE X e te we) (hs : starEach [e] X.env = [(false, eval e X.env)] := by rfl) : DI X (.Tuple elts kk tpos) (.Call (.Name "enumerate" p) [e] [] pos) (iEnumA X.K (tCons te tNil)) (wEnum we) :=
  ⟨pi_enumA hg hm (pa_cons he.pe pa_nil hs) hs, fun {sx H0 F0 F σ H η Q R} r hw k => he.sem r hw fun d v F1 H1 q e hd => by
    have le := (r.ext e).base.le
    cases d <;> first | exact q.elim | skip
    · cases hd with
      | lst h1 h2 => exact ⟨_, _, rfl, .inl ⟨SqL.of (le _ _ h1), k _ _ F1 H1 q e (it_T (by rw [enumD_len, h2.length]) (fun F' H' s b => SqL.of (b.le _ _ (s _ _ h1))) fun s b he g => ⟨_, .refl b, en_dt h2 s he g⟩)⟩⟩
    · cases hd with
      | tup h1 h2 => exact ⟨_, _, rfl, .inr ⟨(h1.mono le).sq, k _ _ F1 H1 q e (it_T (by rw [enumD_len, h2.length]) (fun F' H' s b => ((h1.mono s).mono b.le).sq) fun s b he g => ⟨_, .refl b, en_dt h2 s he g⟩)⟩⟩⟩
end
end W2

set_option Elab.async false
set_option linter.all false
set_option maxRecDepth 100000
/-! W2I: d.items(), whatever the keys. -/
namespace W2
open PySem PySem.Spec PyProof.Rows L2

theorem itemsX {prog : Program} {w : World} {A : Around} (hh : A.handled = none) (I d : Addr) (ne : d ≠ I) (es : Array DictEntry) (ep : Nat) :
    WalksT prog w A I [I, d] [I] es.size (fun i vals => ∃ hi : i < es.size, vals = #[es[i].key, es[i].val]) (fun i h => (∃ ok ov, IsItemIter h I d i es.size ep ok ov) ∧ h.DictRaw d es ep) (fun i T h => (((∃ ok ov, IsItemIterOut h I d (i + 1) es.size ep ok ov T) ∧ h.DictRaw d es ep) ∧ T ≠ I) ∧ NoDict h T) :=
  have W := WalksT.rawItems (prog := prog) (w := w) hh I d ne es ep
  { sub := W.sub, frame := W.frame, go := fun elts kk pos i T s Q E hm hQ => W.go elts kk pos i T s Q E hm.1 hQ, apart := fun i T h hm => W.apart i T h hm.1, done := W.done, self := W.self,
    item := fun i s Q E hi ⟨⟨ok, ov, hit⟩, hd⟩ hQ => wpAny_pyNext_items_item_raw hit hd hi fun g o1 ht _ hk =>
      hQ _ _ g s.toks ⟨hi, rfl⟩ (Nat.le_refl _) ⟨_, ht, rfl, _, rfl⟩ ⟨⟨⟨⟨_, _, o1⟩, hd.at fun o e => hk d o ne e⟩, Nat.ne_of_gt (Heap.lt_size hit)⟩, _, ht, rfl⟩ fun b o hb e => hk b o (fun z => hb (by simp [z])) e }
/-- a locked dict: each entry is a key and a value of these -/
def ItmR (Fz : Hp → Prop) (n : Nat) (G : Nat → V → V → Prop) : It := ItT Fz n fun _ i vs => ∃ k v, G i k v ∧ vs = [k, v]
def RawOk (X : Cx) (Fz : Hp → Prop) (d : Addr) (es : Array DictEntry) (ep n : Nat) (G : Nat → V → V → Prop) : Prop :=
  es.size = n ∧ ∀ (pins : List (Addr × Obj)) (σ : L2.St) (H : Hp) (s : Shared), Inv X pins σ H s → Fz H → s.heap.DictRaw d es ep ∧ ∀ (i : Nat) (hi : i < es.size), ∃ k v, G i k v ∧ RelV k es[i].key ∧ RelV v es[i].val
theorem turn_itmR {P : Program} {w : World} {K : PySem.W.Frag} {elts : List Expr} {kk : Nat} {tpos : Pos} {it d : Addr} {es : Array DictEntry} {ep n : Nat} {Fz : Hp → Prop} {G : Nat → V → V → Prop} (hne : d ≠ it) (hsz : es.size = n)
    (raw : ∀ (X : Cx), X.prog = P → X.w = w → X.K = K → RawOk X Fz d es ep n G) :
    Turn P w K (.Tuple elts kk tpos) (ItmR Fz n G) [it] it (fun i h => ∃ ok ov, IsItemIter h it d i es.size ep ok ov) :=
  turn_T (Y := Unit) (fp := fun _ => [it, d]) (nY := fun _ => es.size) (Sc := fun _ h => h.DictRaw d es ep) (W := fun _ A hh => itemsX hh it d hne es ep) (fun _ _ _ _ m => m.2) (fun _ i h x y => ⟨x, y⟩) (fun _ i h x => x.1) (by simp)
    (fun i h ⟨ok, ov, e⟩ b hb => by
      have hb' : b = it := by simpa using hb
      subst hb'
      exact ⟨_, e, fun v z => nomatch z⟩)
    (fun i h h' ⟨ok, ov, e⟩ k => ⟨ok, ov, k it (by simp) _ e⟩)
    (fun X pins σ H s hP hw hK I hz => by
      obtain ⟨r1, r2⟩ := (raw X hP hw hK).2 pins σ H s I hz
      refine ⟨(), r1, hsz, fun i vals hi ⟨hi', e⟩ => ?_⟩
      obtain ⟨k, v, g, h1, h2⟩ := r2 i hi'
      subst e
      exact ⟨[k, v], .cons h1 (.cons h2 .nil), ⟨k, v, g, rfl⟩, by show 2 ≤ 1000; decide⟩)
    (fun A i s Q E ⟨ok, ov, e⟩ q => wpAny_pyIter_itemiter e q)
theorem pairs_get {prog : Program} {w : World} {κ : Type} [DecidableEq κ] {knd : KeyKind prog w κ} : ∀ {es : List DictEntry} {kvs : List (κ × Value)} {i : Nat} {e : DictEntry}, Pairs knd es kvs → es[i]? = some e → ∃ kv, kvs[i]? = some kv ∧ knd.is kv.1 e.key = true ∧ e.val = kv.2
  | _, _, _, _, .nil, h => by simp at h
  | _, _, 0, _, .cons h1 h2 _, h => by simp at h; subst h; exact ⟨_, rfl, h1, h2⟩
  | _, _, i + 1, _, .cons _ _ t, h => by
    obtain ⟨kv, q, r⟩ := pairs_get (i := i) t (by simpa using h)
    exact ⟨kv, by simpa using q, r⟩
def GK (kvs : List (Key × V)) (i : Nat) (x v : V) : Prop := ∃ k, kvs[i]? = some (k, v) ∧ x = kV k
def GT (o : Obj) (kvs : List (List Key × V)) (i : Nat) (x v : V) : Prop := ∃ k q, kvs[i]? = some (k, v) ∧ x = .ref q ∧ KeyIx o i q
theorem raw_K {X : Cx} {d : Addr} {o : Obj} {kvs : List (Key × V)} {es : Array DictEntry} {ep : Nat} (hod : o.data = .dict es ep) (hsz : es.size = kvs.length) : RawOk X (fun H => H d = some (.frz o (.dK kvs))) d es ep kvs.length (GK kvs) := by
  refine ⟨hsz, fun pins σ H s I hz => ?_⟩
  obtain ⟨hs, hgd, hx, es', ep', vs, hdt, _, kv, hm⟩ := I.frzK hz
  obtain ⟨rfl, rfl⟩ := dict_ep hod hdt
  refine ⟨⟨o, hgd, hx, hdt⟩, fun i hi => ?_⟩
  have lt : i < kvs.length := by omega
  obtain ⟨o2, es2, g2, _, d2, _, pr, _⟩ := hm
  rw [hgd] at g2
  cases g2
  obtain ⟨rfl, _⟩ := dict_ep hdt d2
  obtain ⟨u, hu, ru⟩ := kv_get kv (List.getElem?_eq_getElem lt)
  obtain ⟨p, hp, h1, h2⟩ := pairs_get (i := i) (e := es2[i]) pr (by rw [Array.getElem?_toList]; exact Array.getElem?_eq_getElem hi)
  rw [hu] at hp
  cases hp
  exact ⟨kV kvs[i].1, kvs[i].2, ⟨kvs[i].1, List.getElem?_eq_getElem lt, rfl⟩, relV_key h1, by rw [h2]; exact ru⟩
theorem raw_T {X : Cx} {d : Addr} {o : Obj} {kvs : List (List Key × V)} {es : Array DictEntry} {ep : Nat} (hod : o.data = .dict es ep) (hsz : es.size = kvs.length) : RawOk X (fun H => FzT H d o kvs) d es ep kvs.length (GT o kvs) := by
  refine ⟨hsz, fun pins σ H s I hz => ?_⟩
  obtain ⟨hs, hgd, hx, es', ep', hdt, _, ent⟩ := hz.at I
  obtain ⟨rfl, rfl⟩ := dict_ep hod hdt
  refine ⟨⟨o, hgd, hx, hdt⟩, fun i hi => ?_⟩
  have lt : i < kvs.length := by omega
  obtain ⟨en, q, hen, hkey, _, hv⟩ := ent i _ _ (List.getElem?_eq_getElem lt)
  rw [Array.getElem?_eq_getElem hi] at hen
  have e := Option.some.inj hen
  exact ⟨.ref q, kvs[i].2, ⟨kvs[i].1, q, List.getElem?_eq_getElem lt, rfl, _, _, en, hdt, by rw [Array.getElem?_eq_getElem hi, e], hkey⟩, by rw [e, hkey]; rfl, by rw [e]; exact hv⟩
def iItmA (td : TE) : TI := fun σ H R => td σ H fun x H1 => ∃ d o, x = .ref d ∧ ((∃ kvs, H1 d = some (.frz o (.dK kvs)) ∧ R (ItmR (fun H => H d = some (.frz o (.dK kvs))) kvs.length (GK kvs)) H1) ∨ ∃ kvs, FzT H1 d o kvs ∧ R (ItmR (fun H => FzT H d o kvs) kvs.length (GT o kvs)) H1)
section
variable {X : Cx} {e : Expr} {te : TE} {we : WE} {elts : List Expr} {kk : Nat} {tpos apos cpos : Pos}
theorem pi_itmA (he : PE X e te) (hbase : attributeBase e "items" X.env (eval e X.env) = eval e X.env := by rfl) (hline : (apos.endLine == cpos.line) = true := by rfl) :
    PI X (.Tuple elts kk tpos) (.Call (.Attribute e "items" apos) [] [] cpos) (iItmA te) := by
  refine ⟨fun pins s σ H R I h => ?_⟩
  refine wpAny_Call_method (T := "dict") (id := "dict.items") hbase rfl hline F.plainAttrs_dict F.slot_dict_items F.type_dict_items (thn (he.run pins s σ H _ I h) fun u s1 ⟨x, H1, I1, rx, d, o, ex, q⟩ => ?_)
  subst ex
  obtain rfl : u = Value.ref d := rx
  have go : ∀ {n : Nat} {es : Array DictEntry} {ep : Nat} {Fz : Hp → Prop} {G : Nat → V → V → Prop}, (d == sysModules) = false → o.ExactDict → s1.heap.get? d = some o → o.data = .dict es ep → es.size = n → (∀ (X' : Cx), X'.prog = X.prog → X'.w = X.w → X'.K = X.K → RawOk X' Fz d es ep n G) → R (ItmR Fz n G) H1 →
      s1.TypeIs (.ref d) "dict" ∧ (∀ b, Value.ref d = .ref b → ∃ ob, s1.heap.get? b = some ob ∧ ob.dict = none) ∧ wpAny (model X.prog X.w) X.A (callWith cpos (.builtin "dict.items") [.ref d] (backTo cpos (starEach [] X.env)) []) (fun v t => wpAny (model X.prog X.w) X.A (pyIter v) (PIE X pins σ (.Tuple elts kk tpos) R) X.xe t) X.xe s1 := fun {n es ep Fz G} hs hx hgd hdt sz raw q => by
    have raw0 : s1.heap.DictRaw d es ep := ⟨o, hgd, hx, hdt⟩
    have t1 : s1.TypeIs (.ref d) "dict" := ⟨o, hgd, hx.1⟩
    refine ⟨t1, fun b z => by cases z; exact ⟨o, hgd, hx.2.1⟩, ?_⟩
    have I2 : Inv X pins σ H1 { s1 with heap := s1.heap.push { cls := .type "dict_items", data := .fields #[.ref d] } } := I1.kept (t' := s1.toks) fun b ob q => Heap.get?_push_of_some _ q
    have lt : d < s1.heap.objs.size := Heap.lt_size hgd
    have raw2 : (s1.heap.push { cls := .type "dict_items", data := .fields #[.ref d] }).DictRaw d es ep := raw0.at fun ob q => Heap.get?_push_of_some _ q
    have fin : wpAny (model X.prog X.w) X.A (pyIter (.ref s1.heap.objs.size)) (PIE X pins σ (.Tuple elts kk tpos) R) X.xe { s1 with heap := s1.heap.push { cls := .type "dict_items", data := .fields #[.ref d] } } := by
      refine wpAny_pyIter_items_raw (d := d) (es := es) (ep := ep) ⟨_, Heap.get?_push_size _ rfl, rfl, rfl⟩ raw2 (pi_one (tk := s1.toks) I2 _ (turn_itmR ?_ sz raw) ⟨.none, .none, ?_⟩ q)
      · show d ≠ (s1.heap.push _).objs.size
        rw [Heap.size_push]
        exact Nat.ne_of_lt (Nat.lt_succ_of_lt lt)
      · exact Heap.get?_push_size _ rfl
    show wpAny _ _ (callWith cpos (.builtin "dict.items") [.ref d] [] []) _ X.xe s1
    exact method_meetsIn F.slot_dict_items F.entry_dict_items rfl (PySem.evalArgs_none ⟨rfl, t1, F.args_dict_items_1 _, _, meets_dict_items_raw d hs, ⟨es, ep, raw0⟩, fin⟩)
  rcases q with ⟨kvs, hd, q⟩ | ⟨kvs, hd, q⟩
  · obtain ⟨hs, hgd, hx, es, ep, vs, hdt, hsz, kv, hm⟩ := I1.frzK hd
    exact go hs hx hgd hdt hsz (fun X' _ _ _ => raw_K hdt hsz) q
  · obtain ⟨hs, hgd, hx, es, ep, hdt, hsz, _⟩ := hd.at I1
    exact go hs hx hgd hdt hsz (fun X' _ _ _ => raw_T hdt hsz) q
def pairD (e : D × D) : D := .tuple [e.1, e.2]
theorem it_itmK {K : PySem.W.Frag} {sx : Sx} {F : Hp} {a : Addr} {o : Obj} {kvs : List (Key × V)} {es : List (D × D)} (h : F a = some (.frz o (.dK kvs))) (hd : DtK K F kvs es) : ItOk K sx F (ItmR (fun H => H a = some (.frz o (.dK kvs))) kvs.length (GK kvs)) (es.map pairD) := by
  have q := it_T (K := K) (sx := sx) (F := F) (Fz := fun H => H a = some (.frz o (.dK kvs))) (n := kvs.length) (G := fun _ i vs => ∃ k v, GK kvs i k v ∧ vs = [k, v]) (ds := es.map fun e => [e.1, e.2])
    (by rw [List.length_map, hd.length]) (fun F' H' s b => b.le _ _ (s _ _ h)) (fun {F' H' i vs es'} s b he g => by
      obtain ⟨_, v, ⟨k, hk, rfl⟩, rfl⟩ := g
      obtain ⟨d', h1, h2⟩ := hd.key i hk
      rw [List.getElem?_map, h1] at he
      cases he
      exact ⟨F', .refl b, .cons (.key k) (.cons (h2.mono s) .nil)⟩)
  rw [List.map_map] at q
  exact q
theorem it_itmT {K : PySem.W.Frag} {sx : Sx} {F : Hp} {a : Addr} {o o' : Obj} {kvs : List (List Key × V)} {es : List (D × D)} (h : F a = some (.frz o' (tdO a o))) (ht : TD F a o kvs) (hd : DtT K F kvs es) : ItOk K sx F (ItmR (fun H => FzT H a o kvs) kvs.length (GT o kvs)) (es.map pairD) := by
  have q := it_T (K := K) (sx := sx) (F := F) (Fz := fun H => FzT H a o kvs) (n := kvs.length) (G := fun _ i vs => ∃ k v, GT o kvs i k v ∧ vs = [k, v]) (ds := es.map fun e => [e.1, e.2])
    (by rw [List.length_map, hd.length]) (fun F' H' s b => ⟨⟨_, b.le _ _ (s _ _ h)⟩, (ht.mono s).mono b.le⟩) (fun {F' H' i vs es'} s b he g => by
      obtain ⟨_, v, ⟨k, q, hk, rfl, hq⟩, rfl⟩ := g
      obtain ⟨d', h1, h2⟩ := hd.key i hk
      rw [List.getElem?_map, h1] at he
      cases he
      exact ⟨F', .refl b, .cons (.tup ((hq.eq ht hk).mono s) (.keys k)) (.cons (h2.mono s) .nil)⟩)
  rw [List.map_map] at q
  exact q
def wItm (we : WE) : WI := fun η Q => we η fun d => match d with
  | .dict es => Q (es.map pairD)
  | _ => False
theorem di_itm (he : DE X e te we) (hbase : attributeBase e "items" X.env (eval e X.env) = eval e X.env := by rfl) (hline : (apos.endLine == cpos.line) = true := by rfl) :
    DI X (.Tuple elts kk tpos) (.Call (.Attribute e "items" apos) [] [] cpos) (iItmA te) (wItm we) :=
  ⟨pi_itmA he.pe hbase hline, fun {sx H0 F0 F σ H η Q R} r hw k => he.sem r hw fun d v F1 H1 q e hd => by
    have le := (r.ext e).base.le
    cases d <;> first | exact q.elim | skip
    cases hd with
    | dK h1 h2 => exact ⟨_, _, rfl, .inl ⟨_, le _ _ h1, k _ _ F1 H1 q e (it_itmK h1 h2)⟩⟩
    | dT h1 h3 h2 => exact ⟨_, _, rfl, .inr ⟨_, ⟨⟨_, le _ _ h1⟩, h3.mono le⟩, k _ _ F1 H1 q e (it_itmT h1 h3 h2)⟩⟩⟩
end
end W2

set_option Elab.async false
set_option linter.all false
set_option maxRecDepth 100000
/-! W2P: the law's source of numbers: what is laid, what a pick does. -/
namespace W2
open PySem PySem.Spec PyProof.Rows L2

abbrev rInt1 : List V → Hp → VK → Prop := fun xs H Q => (∃ i, xs = [.int i] ∧ Q (.int i) H) ∨ ∃ k, xs = [.bl k] ∧ Q (.int (if k then 1 else 0)) H
abbrev rAbs1 : List V → Hp → VK → Prop := fun xs H Q => ∃ i, xs = [.int i] ∧ Q (.int (if i < 0 then -i else i)) H
abbrev rMaxI : List V → Hp → VK → Prop := fun xs H Q => ∃ i j, xs = [.int i, .int j] ∧ Q (.int (if j > i then j else i)) H
abbrev rLenS (K : PySem.W.Frag) : List V → Hp → VK → Prop := fun xs H Q => ∃ p ys, xs = [.ref p] ∧ (SqL K H p ys ∨ SqT K H p ys) ∧ Q (.int ys.length) H
abbrev tK (i : Int) : TE := tC (.int i)
abbrev tS (x : Str) : TE := tC (.str x)
abbrev tMulI (a b : TE) : TE := tOp (rI CMul fun i j => .int (i * j)) a b
abbrev tAddI (a b : TE) : TE := tOp (rI0 fun i j => .int (i + j)) a b
abbrev tModI (a b : TE) : TE := tOp (rI (fun _ j => 0 < j) fun i j => .int (i % j)) a b
abbrev tDivI (a b : TE) : TE := tOp (rI CDiv fun i j => .int (i / j)) a b
abbrev tGtI (a b : TE) : TT := tTest (tOp (rI0 fun i j => .bl (decide (j < i))) a b)
abbrev tLtI (a b : TE) : TT := tTest (tOp (rI0 fun i j => .bl (decide (i < j))) a b)
abbrev tIntC (a : TE) : TE := tCB rInt1 (tCons a tNil)
def tSource (K : PySem.W.Frag) : TS :=
  tSeq (tAsg (tK 11) (gName 1)) (tSeq (tFor (iList K (tVar 0)) (gName 2) (tAsg (tModI (tIntC (tAddI (tAddI (tMulI (tVar 1) (tK 69069)) (tMulI (tVar 2) (tK 31))) (tK 5))) (tK 2147483629)) (gName 1)))
    (tRet (tDisp [(tS "cells", tRevL K (tLc (iList K (tVar 0)) (gName 2) tYes (tCB rAbs1 (tCons (tVar 2) tNil)) [2])), (tS "left", tK 1), (tS "mixed", tVar 1), (tS "turn", tK 0)])))
def skv (b : Addr) (l m t : Int) : List (Key × V) := [(.inr "cells", .ref b), (.inr "left", .int l), (.inr "mixed", .int m), (.inr "turn", .int t)]
def absI (i : Int) : Int := if i < 0 then -i else i
theorem absI_nn (i : Int) : 0 ≤ absI i := by unfold absI; split <;> omega
def spSource (K : PySem.W.Frag) : Sp := fun vs H Q _ => ∃ (a : Addr) (ns : List Int), vs = [.ref a] ∧ SqL K H a (ns.map V.int) ∧ ns.length < sizeLine ∧ ∀ a' b' H', Same H H' → SrcAt H' a' b' → Q (.ref a') H'
theorem same_upd {H : Hp} {p : Addr} {o : HO} (h : H p = none) : Same H (upd H p o) := fun b x e => by
  rw [upd_ne (ne_of_none e h)]
  exact e
theorem mod_rng (x : Int) {m : Int} (h : 0 < m) : 0 ≤ x % m ∧ x % m < m := ⟨Int.emod_nonneg x (by omega), Int.emod_lt_of_pos x h⟩
theorem cmul_r {i j : Int} (h : -(2 ^ 64) < j ∧ j < 2 ^ 64) : CMul i j := .inr h
theorem sem_source {K : PySem.W.Frag} {vs : List V} {H : Hp} {Q : VK} (h : spSource K vs H Q E0) : tSource K { nx := fun _ H' => Q .non H', rt := Q } (L2.start ["script", "mixed", "cell"] vs) H := by
  obtain ⟨a, ns, rfl, hS, hl, q⟩ := h
  show tSource K { nx := fun _ H' => Q .non H', rt := Q } [some (.ref a), none, none] H
  refine ⟨.ref a, rfl, a, rfl, ⟨_, hS⟩, ?_⟩
  refine ⟨fun i m σ H' => H' = H ∧ i ≤ ns.length ∧ m = ns.length - i ∧ ∃ mx y2, σ = [some (.ref a), some (.int mx), y2] ∧ 0 ≤ mx ∧ mx < 2147483648, ⟨ns.length, rfl, Nat.zero_le _, rfl, 11, none, rfl, by decide, by decide⟩, ?_⟩
  rintro i m σ H' ⟨rfl, hi, rfl, mx, y2, rfl, m1, m2⟩
  by_cases lt : i < ns.length
  · refine .inr ⟨⟨_, .int ns[i], hS, by rw [List.getElem?_map, List.getElem?_eq_getElem lt]; rfl⟩, fun σ' H'' => H'' = H' ∧ ∃ mx y2, σ' = [some (.ref a), some (.int mx), y2] ∧ 0 ≤ mx ∧ mx < 2147483648, ?_, ?_⟩
    · rintro σ' H'' ⟨rfl, mx, y2, rfl, n1, n2⟩
      exact ⟨ns.length - (i + 1), by omega, rfl, lt, rfl, mx, y2, rfl, n1, n2⟩
    · rintro x H'' ⟨rfl, hx⟩
      have ex := hx _ hS
      rw [List.getElem?_map, List.getElem?_eq_getElem lt] at ex
      cases ex
      refine ⟨.int mx, rfl, mx, 69069, rfl, rfl, cmul_r (by decide), .int ns[i], rfl, _, 31, rfl, rfl, cmul_r (by decide), _, _, rfl, rfl, _, _, rfl, rfl, .inl ⟨_, rfl, _, _, rfl, rfl, (show (0 : Int) < 2147483629 by decide), ?_⟩⟩
      have g := mod_rng (mx * 69069 + ns[i] * 31 + 5) (m := 2147483629) (by decide)
      exact ⟨rfl, _, some (.int ns[i]), rfl, g.1, by omega⟩
  · refine .inl ⟨⟨_, hS, by rw [List.length_map]; omega⟩, ?_⟩
    intro p hp
    have s1 : Same H' (upd H' p (.dK [])) := same_upd hp
    refine ⟨.ref a, rfl, a, rfl, ⟨_, s1.seq hS⟩, ?_⟩
    intro D hD
    have nDp : p ≠ D := fun e => by subst e; rw [upd_same] at hD; cases hD
    have s2 : Same (upd H' p (.dK [])) (upd (upd H' p (.dK [])) D (.lst [])) := same_upd hD
    refine ⟨fun i m H2 => i ≤ ns.length ∧ m = ns.length - i ∧ Same H' H2 ∧ H2 p = some (.dK []) ∧ H2 D = some (.lst ((ns.take i).map fun c => .int (absI c))), ⟨ns.length, Nat.zero_le _, rfl, s1.trans s2, ?_, by rw [upd_same]; rfl⟩, ?_⟩
    · rw [upd_ne nDp, upd_same]
    · rintro i m H2 ⟨hi, rfl, sm, h1, h2⟩
      have hA : SqL K H2 a (ns.map V.int) := sm.seq hS
      by_cases lt : i < ns.length
      · refine .inr ⟨⟨_, .int ns[i], hA, by rw [List.getElem?_map, List.getElem?_eq_getElem lt]; rfl⟩, fun H3 => Same H' H3 ∧ H3 p = some (.dK []) ∧ H3 D = some (.lst ((ns.take (i + 1)).map fun c => .int (absI c))), ?_, ?_⟩
        · rintro H3 ⟨g1, g2, g3⟩
          exact ⟨ns.length - (i + 1), by omega, lt, rfl, g1, g2, g3⟩
        · rintro x H3 ⟨rfl, hx⟩
          have ex := hx _ hA
          rw [List.getElem?_map, List.getElem?_eq_getElem lt] at ex
          cases ex
          have nDH : H' D = none := by rw [upd_ne (fun e => nDp e.symm)] at hD; exact hD
          refine ⟨rfl, ?_⟩
          show tCB rAbs1 (tCons (tVar 2) tNil) _ _ _
          refine ⟨.int ns[i], rfl, ns[i], rfl, _, h2, by rw [List.length_map, List.length_take]; omega, ?_, ?_, ?_⟩
          · intro b o e
            rw [upd_ne (ne_of_none e nDH)]
            exact sm _ _ e
          · rw [upd_ne nDp]; exact h1
          · rw [upd_same, List.take_add_one, List.getElem?_eq_getElem lt, List.map_append]
            rfl
      · have ei : ns.take i = ns := List.take_of_length_le (by omega)
        rw [ei] at h2
        refine .inl ⟨⟨_, hA, by rw [List.length_map]; omega⟩, D, _, rfl, .inl (.inl h2), ?_⟩
        intro c hc
        have nc : p ≠ c := fun e => by subst e; rw [h1] at hc; cases hc
        have s3 : Same H2 (upd H2 c (.lst ((ns.map fun x => V.int (absI x)).reverse))) := same_upd hc
        refine ⟨.int mx, rfl, ?_⟩
        refine ⟨by rw [upd_ne nc]; exact h1, [(.inr "cells", .ref c), (.inr "left", .int 1), (.inr "mixed", .int mx), (.inr "turn", .int 0)], rfl, (show 4 ≤ 15 by decide), ?_⟩
        have mk : mergeK [] [((.inr "cells" : Key), V.ref c), (.inr "left", .int 1), (.inr "mixed", .int mx), (.inr "turn", .int 0)] = skv c 1 mx 0 := by rfl
        rw [mk]
        refine q p c _ ?_ ⟨nc, (ns.map absI).reverse, 1, mx, 0, upd_same, ?_, ?_, by decide, m1, m2, by decide⟩
        · intro b o e
          have nb : b ≠ p := ne_of_none e hp
          rw [upd_ne nb]
          exact s3 _ _ (sm _ _ e)
        · rw [upd_ne nc.symm, upd_same, List.map_reverse, List.map_map]
          rfl
        · intro x hx
          rw [List.mem_reverse, List.mem_map] at hx
          obtain ⟨y, _, rfl⟩ := hx
          exact absI_nn y

/-! ### a pick -/
def tPick (K : PySem.W.Frag) : TS :=
  tSeq (tWhile (tAnd (tGtI (tVar 1) (tK 1)) (tAnd (tLtI (tDGet (tVar 0) (tS "left")) (tK 2)) (tGtI (tCB (rLenS K) (tCons (tDGet (tVar 0) (tS "cells")) tNil)) (tK 0)))) (sDPut (tVar 0) (tS "left") (tBM0 K "list" rPop (tDGet (tVar 0) (tS "cells")))))
  (tSeq (tAsg (tDGet (tVar 0) (tS "left")) (gName 2))
  (tSeq (tIfS (tOr (tLtI (tVar 1) (tK 2)) (tGtI (tVar 2) (tK 1)))
    (tSeq (sDPut (tVar 0) (tS "left") (tDivI (tVar 2) (tCB rMaxI (tCons (tK 1) (tCons (tVar 1) tNil))))) (tRet (tModI (tIntC (tVar 2)) (tCB rMaxI (tCons (tK 1) (tCons (tVar 1) tNil)))))) tNext)
  (tSeq (sDPut (tVar 0) (tS "turn") (tAddI (tDGet (tVar 0) (tS "turn")) (tK 1)))
  (tSeq (tAsg (tModI (tIntC (tAddI (tDGet (tVar 0) (tS "mixed")) (tMulI (tDGet (tVar 0) (tS "turn")) (tK 104729)))) (tK 998244353)) (gName 3))
  (tSeq (tAsg (tModI (tIntC (tAddI (tMulI (tVar 3) (tVar 3)) (tMulI (tDGet (tVar 0) (tS "turn")) (tK 17)))) (tK 2147483647)) (gName 3))
  (tSeq (sDPut (tVar 0) (tS "mixed") (tVar 3))
  (tRet (tModI (tIntC (tDivI (tVar 3) (tK 16))) (tVar 1)))))))))
structure S4 (H : Hp) (a b : Addr) (cs : List Int) (l m t : Int) : Prop where
  ne : a ≠ b
  ha : H a = some (.dK (skv b l m t))
  hb : H b = some (.lst (cs.map V.int))
  cs : ∀ c ∈ cs, 0 ≤ c
  l0 : 0 ≤ l
  m0 : 0 ≤ m
  m1 : m < 2147483648
  t0 : 0 ≤ t
/-- the heap but for the source -/
def Off (a b : Addr) (H H' : Hp) : Prop := ∀ c, c ≠ a → c ≠ b → H' c = H c
theorem Off.refl {a b : Addr} {H : Hp} : Off a b H H := fun _ _ _ => rfl
theorem Off.put {a b : Addr} {H H' : Hp} {o : HO} (h : Off a b H H') : Off a b H (upd H' a o) := fun c h1 h2 => by rw [upd_ne h1]; exact h c h1 h2
theorem Off.putB {a b : Addr} {H H' : Hp} {o : HO} (h : Off a b H H') : Off a b H (upd H' b o) := fun c h1 h2 => by rw [upd_ne h2]; exact h c h1 h2
theorem off_ext {a b : Addr} {F H H' : Hp} (bs : Base (some (a, b)) F H) (o : Off a b H H') (s : SrcAt H' a b) : Ext2 (some (a, b)) F H F H' where
  sF := Same.refl F
  sH := fun c u e n => by rw [o c (fun z => n (.inl z)) (fun z => n (.inr z))]; exact e
  le := fun c u e => by
    have n1 : c ≠ a := fun z => by subst z; rw [bs.no c (.inl rfl)] at e; cases e
    have n2 : c ≠ b := fun z => by subst z; rw [bs.no c (.inr rfl)] at e; cases e
    rw [o c n1 n2]; exact bs.le _ _ e
  fr := fun _ _ e => .inl e
  ok := s
section
variable {H : Hp} {a b : Addr} {cs : List Int} {l m t : Int}
theorem S4.src (h : S4 H a b cs l m t) : SrcAt H a b := ⟨h.ne, cs, l, m, t, h.ha, h.hb, h.cs, h.l0, h.m0, h.m1, h.t0⟩
theorem S4.cells (h : S4 H a b cs l m t) : DGet H a (.str "cells") (some (.ref b)) := DGet.k (k := .inr "cells") h.ha
theorem S4.left (h : S4 H a b cs l m t) : DGet H a (.str "left") (some (.int l)) := DGet.k (k := .inr "left") h.ha
theorem S4.mixed (h : S4 H a b cs l m t) : DGet H a (.str "mixed") (some (.int m)) := DGet.k (k := .inr "mixed") h.ha
theorem S4.turn (h : S4 H a b cs l m t) : DGet H a (.str "turn") (some (.int t)) := DGet.k (k := .inr "turn") h.ha
theorem S4.putL (h : S4 H a b cs l m t) {x : Int} (hx : 0 ≤ x) : DPut H a (.str "left") (.int x) (upd H a (.dK (skv b x m t))) ∧ S4 (upd H a (.dK (skv b x m t))) a b cs x m t :=
  ⟨DPut.k (k := .inr "left") h.ha (show 4 < sizeLine by decide), ⟨h.ne, upd_same, by rw [upd_ne h.ne.symm]; exact h.hb, h.cs, hx, h.m0, h.m1, h.t0⟩⟩
theorem S4.putM (h : S4 H a b cs l m t) {x : Int} (hx : 0 ≤ x) (hx1 : x < 2147483648) : DPut H a (.str "mixed") (.int x) (upd H a (.dK (skv b l x t))) ∧ S4 (upd H a (.dK (skv b l x t))) a b cs l x t :=
  ⟨DPut.k (k := .inr "mixed") h.ha (show 4 < sizeLine by decide), ⟨h.ne, upd_same, by rw [upd_ne h.ne.symm]; exact h.hb, h.cs, h.l0, hx, hx1, h.t0⟩⟩
theorem S4.putT (h : S4 H a b cs l m t) {x : Int} (hx : 0 ≤ x) : DPut H a (.str "turn") (.int x) (upd H a (.dK (skv b l m x))) ∧ S4 (upd H a (.dK (skv b l m x))) a b cs l m x :=
  ⟨DPut.k (k := .inr "turn") h.ha (show 4 < sizeLine by decide), ⟨h.ne, upd_same, by rw [upd_ne h.ne.symm]; exact h.hb, h.cs, h.l0, h.m0, h.m1, hx⟩⟩
end
def wfPick : WF := fun ds Q => match ds with
  | [.int m] => m < 1073741824 ∧ ∀ r, 0 ≤ r → r < max 1 m → Q (.int r)
  | _ => False
theorem max_if (m : Int) : (if m > 1 then m else 1) = max 1 m := by
  by_cases h : m > 1
  · rw [if_pos h]; omega
  · rw [if_neg h]; omega
set_option maxHeartbeats 1000000 in
theorem sem_pick {K : PySem.W.Frag} {vs : List V} {H : Hp} {Q : VK} (h : spS K 1 wfPick vs H Q E0) : tPick K { nx := fun _ H' => Q .non H', rt := Q } (L2.start ["source", "many", "left", "mixed"] vs) H := by
  obtain ⟨a, b, vs', F, ds, P, rfl, bs, hd, hl, hw, k⟩ := h
  obtain ⟨d, rfl⟩ : ∃ d, ds = [d] := by
    match ds, hl with
    | [d], _ => exact ⟨d, rfl⟩
  cases hd with
  | cons hd0 hn =>
  cases hn
  cases d <;> first | exact hw.elim | skip
  rename_i m
  cases hd0
  obtain ⟨hm, hw⟩ := hw
  show tPick K { nx := fun _ H' => Q .non H', rt := Q } [some (.ref a), some (.int m), none, none] H
  -- the answer
  have fin : ∀ (r : Int) (H' : Hp), 0 ≤ r → r < max 1 m → Off a b H H' → SrcAt H' a b → Q (.int r) H' := fun r H' h1 h2 ho hs => k (.int r) (.int r) F H' (hw r h1 h2) (off_ext bs ho hs) (.int r)
  obtain ⟨ne, cs0, l0, m0, t0, sa, sb, c0, lz, mz, ms, tz⟩ := bs.ok
  have st0 : S4 H a b cs0 l0 m0 t0 := ⟨ne, sa, sb, c0, lz, mz, ms, tz⟩
  refine ⟨fun n σ H' => σ = [some (.ref a), some (.int m), none, none] ∧ Off a b H H' ∧ ∃ cs l, cs.length = n ∧ S4 H' a b cs l m0 t0, ⟨cs0.length, rfl, Off.refl, cs0, l0, rfl, st0⟩, ?_⟩
  rintro n σ H1 ⟨rfl, of, cs, l, hn, st⟩
  -- what comes behind the loop
  have behind : tSeq (tAsg (tDGet (tVar 0) (tS "left")) (gName 2))
      (tSeq (tIfS (tOr (tLtI (tVar 1) (tK 2)) (tGtI (tVar 2) (tK 1)))
        (tSeq (sDPut (tVar 0) (tS "left") (tDivI (tVar 2) (tCB rMaxI (tCons (tK 1) (tCons (tVar 1) tNil))))) (tRet (tModI (tIntC (tVar 2)) (tCB rMaxI (tCons (tK 1) (tCons (tVar 1) tNil)))))) tNext)
      (tSeq (sDPut (tVar 0) (tS "turn") (tAddI (tDGet (tVar 0) (tS "turn")) (tK 1)))
      (tSeq (tAsg (tModI (tIntC (tAddI (tDGet (tVar 0) (tS "mixed")) (tMulI (tDGet (tVar 0) (tS "turn")) (tK 104729)))) (tK 998244353)) (gName 3))
      (tSeq (tAsg (tModI (tIntC (tAddI (tMulI (tVar 3) (tVar 3)) (tMulI (tDGet (tVar 0) (tS "turn")) (tK 17)))) (tK 2147483647)) (gName 3))
      (tSeq (sDPut (tVar 0) (tS "mixed") (tVar 3))
      (tRet (tModI (tIntC (tDivI (tVar 3) (tK 16))) (tVar 1)))))))) { nx := fun _ H' => Q .non H', rt := Q } [some (.ref a), some (.int m), none, none] H1 := by
    refine ⟨.ref a, rfl, a, _, rfl, st.left, ?_⟩
    have rest : ∀ H2, Off a b H H2 → S4 H2 a b cs l m0 t0 → 2 ≤ m → (tSeq (sDPut (tVar 0) (tS "turn") (tAddI (tDGet (tVar 0) (tS "turn")) (tK 1)))
      (tSeq (tAsg (tModI (tIntC (tAddI (tDGet (tVar 0) (tS "mixed")) (tMulI (tDGet (tVar 0) (tS "turn")) (tK 104729)))) (tK 998244353)) (gName 3))
      (tSeq (tAsg (tModI (tIntC (tAddI (tMulI (tVar 3) (tVar 3)) (tMulI (tDGet (tVar 0) (tS "turn")) (tK 17)))) (tK 2147483647)) (gName 3))
      (tSeq (sDPut (tVar 0) (tS "mixed") (tVar 3))
      (tRet (tModI (tIntC (tDivI (tVar 3) (tK 16))) (tVar 1))))))) { nx := fun _ H' => Q .non H', rt := Q } [some (.ref a), some (.int m), some (.int l), none] H2 := by
      intro H2 of2 st2 m2
      obtain ⟨p1, st3⟩ := st2.putT (x := t0 + 1) (by omega)
      refine ⟨.ref a, rfl, a, _, rfl, st2.turn, t0, 1, rfl, rfl, .ref a, rfl, a, _, rfl, p1, ?_⟩
      refine ⟨.ref a, rfl, a, _, rfl, st3.mixed, .ref a, rfl, a, _, rfl, st3.turn, _, _, rfl, rfl, cmul_r (by decide), _, _, rfl, rfl, .inl ⟨_, rfl, _, _, rfl, rfl, (show (0 : Int) < 998244353 by decide), ?_⟩⟩
      have g1 := mod_rng (m0 + (t0 + 1) * 104729) (m := 998244353) (by decide)
      dsimp only
      generalize (m0 + (t0 + 1) * 104729) % 998244353 = x1 at g1 ⊢
      refine ⟨.int x1, rfl, .int x1, rfl, _, _, rfl, rfl, .inl ⟨by omega, by omega⟩, .ref a, rfl, a, _, rfl, st3.turn, _, _, rfl, rfl, cmul_r (by decide), _, _, rfl, rfl, .inl ⟨_, rfl, _, _, rfl, rfl, (show (0 : Int) < 2147483647 by decide), ?_⟩⟩
      have g2 := mod_rng (x1 * x1 + (t0 + 1) * 17) (m := 2147483647) (by decide)
      dsimp only
      generalize (x1 * x1 + (t0 + 1) * 17) % 2147483647 = x2 at g2 ⊢
      obtain ⟨p2, st4⟩ := st3.putM (x := x2) g2.1 (by omega)
      refine ⟨.int x2, rfl, .ref a, rfl, a, _, rfl, p2, ?_⟩
      refine ⟨.int x2, rfl, x2, 16, rfl, rfl, ⟨by decide, by decide⟩, .inl ⟨_, rfl, .int m, rfl, _, _, rfl, rfl, (show (0 : Int) < m by omega), ?_⟩⟩
      have g3 := mod_rng (x2 / 16) (m := m) (by omega)
      exact fin _ _ g3.1 (by omega) (Off.put (Off.put of2)) st4.src
    have early : 0 ≤ l → (tSeq (sDPut (tVar 0) (tS "left") (tDivI (tVar 2) (tCB rMaxI (tCons (tK 1) (tCons (tVar 1) tNil))))) (tRet (tModI (tIntC (tVar 2)) (tCB rMaxI (tCons (tK 1) (tCons (tVar 1) tNil))))))
        { nx := fun σ' H' => (tSeq (sDPut (tVar 0) (tS "turn") (tAddI (tDGet (tVar 0) (tS "turn")) (tK 1)))
      (tSeq (tAsg (tModI (tIntC (tAddI (tDGet (tVar 0) (tS "mixed")) (tMulI (tDGet (tVar 0) (tS "turn")) (tK 104729)))) (tK 998244353)) (gName 3))
      (tSeq (tAsg (tModI (tIntC (tAddI (tMulI (tVar 3) (tVar 3)) (tMulI (tDGet (tVar 0) (tS "turn")) (tK 17)))) (tK 2147483647)) (gName 3))
      (tSeq (sDPut (tVar 0) (tS "mixed") (tVar 3))
      (tRet (tModI (tIntC (tDivI (tVar 3) (tK 16))) (tVar 1))))))) { nx := fun _ H' => Q .non H', rt := Q } σ' H', rt := Q } [some (.ref a), some (.int m), some (.int l), none] H1 := by
      intro _
      have mp : (0 : Int) < max 1 m := by omega
      have ml : max 1 m < 1073741824 := by omega
      obtain ⟨p1, st3⟩ := st.putL (x := l / max 1 m) (Int.ediv_nonneg st.l0 (by omega))
      refine ⟨.int l, rfl, .int m, rfl, 1, m, rfl, l, _, rfl, rfl, ?_, .ref a, rfl, a, _, rfl, by rw [max_if]; exact p1, ?_⟩
      · rw [max_if]; exact ⟨mp, ml⟩
      · refine ⟨.int l, rfl, .inl ⟨_, rfl, .int m, rfl, 1, m, rfl, l, _, rfl, rfl, ?_, ?_⟩⟩
        · rw [max_if]; exact mp
        · rw [max_if]
          have g := mod_rng l mp
          exact fin _ _ g.1 g.2 (Off.put of) st3.src
    refine ⟨.int m, rfl, m, 2, rfl, rfl, _, rfl, ?_⟩
    by_cases h2 : m < 2
    · rw [decide_eq_true h2]
      exact early st.l0
    · rw [decide_eq_false h2]
      refine ⟨.int l, rfl, l, 1, rfl, rfl, _, rfl, ?_⟩
      by_cases h3 : 1 < l
      · rw [decide_eq_true h3]
        exact early st.l0
      · rw [decide_eq_false h3]
        exact rest H1 of st (by omega)
  refine ⟨.int m, rfl, m, 1, rfl, rfl, _, rfl, ?_⟩
  by_cases h1 : 1 < m
  · rw [decide_eq_true h1]
    refine ⟨.ref a, rfl, a, _, rfl, st.left, l, 2, rfl, rfl, _, rfl, ?_⟩
    by_cases h2 : l < 2
    · rw [decide_eq_true h2]
      refine ⟨.ref a, rfl, a, _, rfl, st.cells, b, _, rfl, .inl (.inl (.inl st.hb)), _, 0, rfl, rfl, _, rfl, ?_⟩
      by_cases h3 : (0 : Int) < ((cs.map V.int).length : Nat)
      · rw [decide_eq_true h3]
        show (if (true : Bool) = true then _ else _)
        rw [if_pos rfl]
        have pos : 0 < cs.length := by rw [List.length_map] at h3; omega
        have lt : cs.length - 1 < cs.length := by omega
        refine ⟨fun σ' H' => σ' = [some (.ref a), some (.int m), none, none] ∧ Off a b H H' ∧ ∃ cs' l, cs'.length < n ∧ S4 H' a b cs' l m0 t0, ?_, ?_⟩
        · rintro σ' H' ⟨rfl, of', cs', l', c1, c2⟩
          exact ⟨cs'.length, c1, rfl, of', cs', l', rfl, c2⟩
        · refine ⟨.ref a, rfl, a, _, rfl, st.cells, .inl ⟨rfl, _, .inl (.inl st.hb)⟩, b, _, .int cs[cs.length - 1], rfl, rfl, st.hb, by rw [List.length_map, List.getElem?_map, List.getElem?_eq_getElem lt]; rfl, ?_⟩
          have st2 : S4 (upd H1 b (.lst (cs.map V.int).dropLast)) a b cs.dropLast l m0 t0 := ⟨st.ne, by rw [upd_ne st.ne]; exact st.ha, by rw [upd_same, List.map_dropLast], fun c hc => st.cs c (List.dropLast_subset _ hc), st.l0, st.m0, st.m1, st.t0⟩
          obtain ⟨p1, st3⟩ := st2.putL (x := cs[cs.length - 1]) (st.cs _ (List.getElem_mem _))
          refine ⟨.ref a, rfl, a, _, rfl, p1, rfl, (of.putB).put, cs.dropLast, _, ?_, st3⟩
          rw [List.length_dropLast]
          omega
      · rw [decide_eq_false h3]
        show (if (false : Bool) = true then _ else _)
        rw [if_neg Bool.false_ne_true]
        exact behind
    · rw [decide_eq_false h2]
      show (if (false : Bool) = true then _ else _)
      rw [if_neg Bool.false_ne_true]
      exact behind
  · rw [decide_eq_false h1]
    show (if (false : Bool) = true then _ else _)
    rw [if_neg Bool.false_ne_true]
    exact behind
end W2

set_option Elab.async false
set_option linter.all false
set_option maxRecDepth 100000
/-! W2Q: things mixed, one of some; the law's own end. -/
namespace W2
open PySem PySem.Spec PyProof.Rows L2

abbrev rList1 (K : PySem.W.Frag) : List V → Hp → VK → Prop := fun xs H Q => ∃ p ys, xs = [.ref p] ∧ (SqL K H p ys ∨ SqT K H p ys) ∧ ∀ l, H l = none → Q (.ref l) (upd H l (.lst ys))
abbrev tPickLen (K : PySem.W.Frag) (i j : Nat) : TE := tCall (spS K 1 wfPick) [] E0 (tCons (tVar i) (tCons (tCB (rLenS K) (tCons (tVar j) tNil)) tNil))
def tMixRet (K : PySem.W.Frag) : TS := tRet (tLc (iRng1 (tCons (tCB (rLenS K) (tCons (tVar 2) tNil)) tNil)) (gName 3) tYes (tBM K "list" rPopAt (tVar 2) (tCons (tPickLen K 0 2) tNil)) [3])
def tMixed (K : PySem.W.Frag) : TS := tSeq (tAsg (tCB (rList1 K) (tCons (tVar 1) tNil)) (gName 2)) (tMixRet K)
def wMixRet : WS := fun D η => match (η[0]? : Option Slot), (η[2]? : Option Slot) with
  | some .src, some (.ow (.list xs)) => xs.length < 16777216 ∧ ∀ ys, ys.Perm xs → D.rt (.list ys)
  | _, _ => False
theorem Ext2.keepNT {sx : Sx} {F H F' H' : Hp} {c : Addr} {o : HO} (e : Ext2 sx F H F' H') (hn : ¬ inSx sx c) (f : F c = none) (h : H c = some o) (nt : ∀ xs, o ≠ .tup xs) : F' c = none ∧ H' c = some o := by
  have hb := e.sH _ _ h hn
  refine ⟨?_, hb⟩
  cases z : F' c with
  | none => rfl
  | some u =>
    rcases e.fr _ _ z with y | y | ⟨ys, rfl⟩
    · rw [f] at y; cases y
    · rw [h] at y; cases y
    · have q := e.le _ _ z
      rw [hb] at q
      exact absurd (Option.some.inj q) (nt ys)
/-- what is new may change -/
theorem Ext2.putNew {sx : Sx} {F H F' H' : Hp} {c : Addr} {o : HO} (e : Ext2 sx F H F' H') (hn : ¬ inSx sx c) (h : H c = none) (f : F' c = none) : Ext2 sx F H F' (upd H' c o) where
  sF := e.sF
  sH := fun b u z n => by rw [upd_ne (ne_of_none z h)]; exact e.sH _ _ z n
  le := fun b u z => by rw [upd_ne (ne_of_none z f)]; exact e.le _ _ z
  fr := e.fr
  ok := by
    cases sx with
    | none => trivial
    | some p =>
      obtain ⟨a1, b1⟩ := p
      obtain ⟨n, cs, l, m, t, z1, z2, z⟩ := e.ok
      exact ⟨n, cs, l, m, t, by rw [upd_ne (fun z => hn (.inl z.symm))]; exact z1, by rw [upd_ne (fun z => hn (.inr z.symm))]; exact z2, z⟩
def hideAt (H : Hp) (c : Addr) : Hp := fun b => if b = c then none else H b
theorem hide_at {H : Hp} {c : Addr} : hideAt H c c = none := if_pos rfl
theorem hide_ne {H : Hp} {b c : Addr} (h : b ≠ c) : hideAt H c b = H b := if_neg h
theorem DtL.eraseIdx {K : PySem.W.Frag} {F : Hp} {vs : List V} {ds : List D} (h : DtL K F vs ds) (i : Nat) : DtL K F (vs.eraseIdx i) (ds.eraseIdx i) := by
  rw [List.eraseIdx_eq_take_drop_succ, List.eraseIdx_eq_take_drop_succ]
  exact (h.take i).append (h.drop (i + 1))
theorem perm_erase {α : Type} {xs : List α} {i : Nat} {x : α} (h : xs[i]? = some x) : (x :: xs.eraseIdx i).Perm xs := by
  obtain ⟨hi, e⟩ := List.getElem?_eq_some_iff.mp h
  rw [List.eraseIdx_eq_take_drop_succ]
  have q : xs = xs.take i ++ x :: xs.drop (i + 1) := by
    rw [← e, ← List.drop_eq_getElem_cons hi, List.take_append_drop]
  refine List.Perm.trans ?_ (List.Perm.of_eq q.symm)
  exact List.perm_middle.symm
theorem seqIndex_nn {r : Int} {n : Nat} (h0 : 0 ≤ r) (h1 : r < n) : seqIndex? r n = some r.toNat := by
  unfold seqIndex?
  have e : ¬ r < 0 := by omega
  simp [e, h0, h1]
set_option maxHeartbeats 1000000 in
theorem sem_mixRet {K : PySem.W.Frag} : SemS K (tMixRet K) wMixRet := fun {sx H0 F0 F σ H η D R} r hw k => by
  unfold wMixRet at hw
  split at hw
  · rename_i xs hi0 hi2
    obtain ⟨hlen, hw⟩ := hw
    obtain ⟨v0, hv0, a, b, rfl, rfl⟩ := r.val hi0
    obtain ⟨v2, hv2, c, rfl, ho, hFc, h0c, hnc⟩ := r.val hi2
    obtain ⟨vs, hHc, hvs⟩ := ho
    -- c hidden: what is there is what stood there, but for c
    have bc : Base (some (a, b)) F (hideAt H c) := ⟨fun x o e => by rw [hide_ne (ne_of_none e hFc)]; exact r.base.le _ _ e, by
      obtain ⟨n, cs, l, m, t, z1, z2, z⟩ := r.base.ok
      exact ⟨n, cs, l, m, t, by rw [hide_ne (fun z => hnc (.inl z.symm))]; exact z1, by rw [hide_ne (fun z => hnc (.inr z.symm))]; exact z2, z⟩, r.base.no⟩
    have e0 : Ext2 (some (a, b)) F0 H0 F (hideAt H c) := ⟨r.f0, fun x o e n => by rw [hide_ne (ne_of_none e h0c)]; exact r.s0 _ _ e n, bc.le, r.fr, bc.ok⟩
    have eH : Ext2 (some (a, b)) F (hideAt H c) F H := ⟨Same.refl F, fun x o e n => by
      have nx : x ≠ c := fun z => by subst z; rw [hide_at] at e; cases e
      rw [hide_ne nx] at e; exact e, r.base.le, fun _ _ e => .inl e, r.base.ok⟩
    refine ⟨.ref c, hv2, c, vs, rfl, .inl (.inl (.inl hHc)), (vs.length : Nat), rfl, by omega, ?_, ?_⟩
    · rw [hvs.length]; omega
    intro Dd hD
    have nDc : Dd ≠ c := fun e => by subst e; rw [hHc] at hD; cases hD
    have nDx : ¬ inSx (some (a, b)) Dd := fun z => by obtain ⟨o, q⟩ := r.base.ok.there z; rw [hD] at q; cases q
    have hDh : hideAt H c Dd = none := by rw [hide_ne nDc]; exact hD
    have hDF : F Dd = none := by
      cases z : F Dd with
      | none => rfl
      | some u => rw [r.base.le _ _ z] at hD; cases hD
    have e3 : (vs.length : Int).toNat = xs.length := by rw [hvs.length]; omega
    refine ⟨fun i m H' => i ≤ xs.length ∧ m = xs.length - i ∧ ∃ F' rem acc vr va, Ext2 (some (a, b)) F (hideAt H c) F' H' ∧ F' c = none ∧ H' c = some (.lst vr) ∧ DtL K F' vr rem ∧ F' Dd = none ∧ H' Dd = some (.lst va) ∧ DtL K F' va acc ∧
      (acc ++ rem).Perm xs ∧ acc.length = i, ⟨xs.length, Nat.zero_le _, rfl, F, xs, [], vs, [], eH.putNew nDx hDh hDF, hFc, by rw [upd_ne nDc.symm]; exact hHc, hvs, hDF, upd_same, .nil, List.Perm.refl _, rfl⟩, ?_⟩
    rintro i m H' ⟨hi, rfl, F', rem, acc, vr, va, ex, f1, f2, f3, f4, f5, f6, pm, la⟩
    have ltot : acc.length + rem.length = xs.length := by rw [← List.length_append]; exact pm.length_eq
    by_cases lt : i < xs.length
    · refine .inr ⟨(by show i < _; rw [e3]; exact lt), fun H3 => ∃ F' rem acc vr va, Ext2 (some (a, b)) F (hideAt H c) F' H3 ∧ F' c = none ∧ H3 c = some (.lst vr) ∧ DtL K F' vr rem ∧ F' Dd = none ∧ H3 Dd = some (.lst va) ∧ DtL K F' va acc ∧
      (acc ++ rem).Perm xs ∧ acc.length = i + 1, ?_, ?_⟩
      · rintro H3 ⟨F3, rem3, acc3, vr3, va3, g⟩
        exact ⟨xs.length - (i + 1), by omega, lt, rfl, F3, rem3, acc3, vr3, va3, g⟩
      · rintro x H3 ⟨rfl, rfl⟩
        have w0 : (L2.wipe σ [3])[0]? = some (some (.ref a)) := by
          show (σ.set 3 none)[0]? = _
          rw [List.getElem?_set_ne (by decide)]; exact hv0
        have w2 : (L2.wipe σ [3])[2]? = some (some (.ref c)) := by
          show (σ.set 3 none)[2]? = _
          rw [List.getElem?_set_ne (by decide)]; exact hv2
        have y0 : ((L2.wipe σ [3]).set 3 (some (.int (0 + (i : Nat)))))[0]? = some (some (.ref a)) := by rw [List.getElem?_set_ne (by decide)]; exact w0
        have y2 : ((L2.wipe σ [3]).set 3 (some (.int (0 + (i : Nat)))))[2]? = some (some (.ref c)) := by rw [List.getElem?_set_ne (by decide)]; exact w2
        refine ⟨?_, ?_⟩
        · show ((σ.set 3 none).set 3 (some _)).set 3 none = σ.set 3 none
          rw [List.set_set, List.set_set]
        · refine ⟨.ref c, y2, .inl ⟨rfl, _, .inl (.inl f2)⟩, .ref a, y0, .ref c, y2, c, vr, rfl, .inl (.inl (.inl f2)), ?_⟩
          show spS K 1 wfPick _ _ _ E0
          have b3 := ex.base bc
          have lr : vr.length = rem.length := f3.length
          refine ⟨a, b, [.int (vr.length : Nat)], F', [.int (vr.length : Nat)], fun d => ∃ q, d = .int q ∧ 0 ≤ q ∧ q < max 1 (vr.length : Int), rfl, b3, .one (.int _), rfl, ⟨by omega, fun q h1 h2 => ⟨q, rfl, h1, h2⟩⟩, ?_⟩
          rintro d v F4 H4 ⟨q, rfl, q1, q2⟩ e4 hv
          cases hv
          obtain ⟨g1, g2⟩ := e4.keepNT hnc f1 f2 (fun _ z => nomatch z)
          obtain ⟨g4, g5⟩ := e4.keepNT nDx f4 f5 (fun _ z => nomatch z)
          have qlt : q < (vr.length : Int) := by omega
          have kl : q.toNat < vr.length := by omega
          have kl2 : q.toNat < rem.length := by omega
          have f3' := f3.mono e4.sF
          obtain ⟨v', hv', hd'⟩ := f3'.get q.toNat (List.getElem?_eq_getElem kl2)
          refine ⟨c, vr, q, q.toNat, v', rfl, rfl, g2, by omega, by omega, seqIndex_nn q1 qlt, hv', va, by rw [upd_ne nDc]; exact g5, by rw [f6.length, sizeLine_eq]; omega, ?_⟩
          have e5 := ex.trans e4
          refine ⟨F4, rem.eraseIdx q.toNat, acc ++ [rem[q.toNat]], vr.eraseIdx q.toNat, va ++ [v'], (e5.putNew hnc hide_at g1).putNew nDx hDh g4, g1, by rw [upd_ne nDc.symm, upd_same], f3'.eraseIdx _, g4, upd_same, (f6.mono e4.sF).append (.one hd'), ?_, by rw [List.length_append, la]; rfl⟩
          refine List.Perm.trans ?_ pm
          rw [List.append_assoc]
          exact List.Perm.append_left acc (perm_erase (List.getElem?_eq_getElem kl2))
    · have ei : i = xs.length := by omega
      have er : rem = [] := List.eq_nil_of_length_eq_zero (by omega)
      subst er
      rw [List.append_nil] at pm
      refine .inl ⟨(by show _ ≤ i; rw [e3]; omega), ?_⟩
      have e6 := e0.trans ex
      refine k.rt (.list acc) (.ref Dd) (upd F' Dd (.lst va)) H' (hw acc pm) ⟨?_, e6.sH, ?_, ?_, e6.ok⟩ (.lst upd_same (f6.mono ?_))
      · intro x o h
        rw [upd_ne (ne_of_none (e6.sF _ _ h) f4)]
        exact e6.sF _ _ h
      · intro x o h
        by_cases hb : x = Dd
        · subst hb; rw [upd_same] at h; cases h; exact f5
        · rw [upd_ne hb] at h; exact e6.le _ _ h
      · intro x o h
        by_cases hb : x = Dd
        · subst hb; exact .inr (.inl (e0.back hDh))
        · rw [upd_ne hb] at h; exact e6.fr _ _ h
      · intro x o h
        rw [upd_ne (ne_of_none h f4)]
        exact h
  · exact hw.elim
def wfMixed : WF := fun ds Q => match ds with
  | [.list xs] => xs.length < 16777216 ∧ ∀ ys, ys.Perm xs → Q (.list ys)
  | [.tuple xs] => xs.length < 16777216 ∧ ∀ ys, ys.Perm xs → Q (.list ys)
  | _ => False
theorem sem_mixed {K : PySem.W.Frag} {vs : List V} {H : Hp} {Q : VK} (h : spS K 1 wfMixed vs H Q E0) : tMixed K { nx := fun _ H' => Q .non H', rt := Q } (L2.start ["source", "things", "rest", "lap"] vs) H := by
  obtain ⟨a, b, vs', F, ds, P, rfl, bs, hd, hl, hw, k⟩ := h
  have r := rep_startS (N := ["source", "things", "rest", "lap"]) bs hd
  obtain ⟨d, rfl⟩ : ∃ d, ds = [d] := by
    match ds, hl with
    | [d], _ => exact ⟨d, rfl⟩
  obtain ⟨v, rfl, hv⟩ : ∃ v, vs' = [v] ∧ Dt K F v d := by
    cases hd with
    | cons h t => cases t; exact ⟨_, rfl, h⟩
  have go : ∀ (xs : List D) (p : Addr) (ys : List V), v = .ref p → (SqL K H p ys ∨ SqT K H p ys) → DtL K F ys xs → xs.length < 16777216 → (∀ ys, ys.Perm xs → P (.list ys)) → tMixed K { nx := fun _ H' => Q .non H', rt := Q } (L2.start ["source", "things", "rest", "lap"] [.ref a, v]) H := by
    intro xs p ys ev hs hy hl hp
    subst ev
    refine ⟨.ref p, rfl, p, ys, rfl, hs, fun l hl0 => ?_⟩
    have nl : F l = none := by
      cases z : F l with
      | none => rfl
      | some u => rw [bs.le _ _ z] at hl0; cases hl0
    have e1 := Ext2.newF (o := .lst ys) bs hl0
    have r1 := r.setOw e1 2 (a := l) (d := .list xs) ⟨ys, upd_same, hy⟩ nl hl0
    refine sem_mixRet r1 (D := { nx := fun _ => False, rt := P }) ?_ ⟨fun _ _ _ _ q => q.elim, fun _ _ _ _ q => q.elim, fun _ _ _ _ q => q.elim, fun d v F' H' q e h => k d v F' H' q e h⟩
    exact ⟨hl, hp⟩
  cases d <;> first | exact hw.elim | skip
  · rename_i xs
    cases hv with
    | lst h1 h2 => exact go xs _ _ rfl (.inl (SqL.of (bs.le _ _ h1))) h2 hw.1 hw.2
  · rename_i xs
    cases hv with
    | tup h1 h2 => exact go xs _ _ rfl (.inr (h1.mono bs.le).sq) h2 hw.1 hw.2
def wfOf : WF := fun ds Q => match ds with
  | [.list xs] => xs ≠ [] ∧ xs.length < 1073741824 ∧ ∀ x ∈ xs, Q x
  | [.tuple xs] => xs ≠ [] ∧ xs.length < 1073741824 ∧ ∀ x ∈ xs, Q x
  | _ => False
/-- the wb of one of some -/
def wbOf : WS := wRet (w2 gIx (wB 1) (wFnS 0 1 wfPick (wCons (wCall gLen (wCons (wB 1) wNil)) wNil)))
end W2

set_option Elab.async false
set_option linter.all false
set_option maxRecDepth 100000
/-! W2M: rows of frozen values and of new objects; a, b = x, y. -/
namespace W2
open PySem PySem.Spec PyProof.Rows L2

section
variable {K : PySem.W.Frag} {sx : Sx} {H0 F0 F H F1 H1 Hb : Hp} {σ : L2.St} {η : En}
/-- an object of its own at a slot -/
theorem Rep.setOwN (r : Rep K sx H0 F0 F σ H η) (i : Nat) {a : Addr} {d : D} (ho : OwnAt K F H a d) (hf : F a = none) (h0 : H0 a = none) (hn : ¬ inSx sx a) (hs : ∀ (j : Nat) (d' : D), η[j]? = some (.ow d') → σ[j]? = some (some (.ref a)) → False) :
    Rep K sx H0 F0 F (σ.set i (some (.ref a))) H (η.set i (.ow d)) where
  base := r.base
  s0 := r.s0
  f0 := r.f0
  fr := r.fr
  len := by rw [List.length_set, List.length_set]; exact r.len
  sl := fun j s x h1 h2 => by
    by_cases e : i = j
    · subst e
      have hi : i < η.length := by have := (List.getElem?_eq_some_iff.mp h1).1; simpa using this
      have hi' : i < σ.length := by rw [← r.len]; exact hi
      rw [List.getElem?_set_self hi] at h1
      rw [List.getElem?_set_self hi'] at h2
      cases h1; cases h2
      exact ⟨a, rfl, ho, hf, h0, hn⟩
    · rw [List.getElem?_set_ne e] at h1 h2
      exact r.sl j s x h1 h2
  sep := fun j k d1 d2 b h1 h2 h3 h4 => by
    have self : ∀ (m : Nat) (d : D), i = m → (η.set i (.ow d))[m]? = some (.ow d) → (σ.set i (some (V.ref a)))[m]? = some (some (.ref b)) → b = a := fun m d e z1 z2 => by
      subst e
      have hi : i < η.length := by have := (List.getElem?_eq_some_iff.mp z1).1; simpa using this
      have hi' : i < σ.length := by rw [← r.len]; exact hi
      rw [List.getElem?_set_self hi'] at z2
      cases z2; rfl
    by_cases e1 : i = j
    · by_cases e2 : i = k
      · exact e1.symm.trans e2
      · exfalso
        have hi : i < η.length := by subst e1; have := (List.getElem?_eq_some_iff.mp h1).1; simpa using this
        have hb : b = a := self j d e1 (by subst e1; rw [List.getElem?_set_self hi]) h3
        subst hb
        rw [List.getElem?_set_ne e2] at h2 h4
        exact hs k d2 h2 h4
    · by_cases e2 : i = k
      · exfalso
        have hi : i < η.length := by subst e2; have := (List.getElem?_eq_some_iff.mp h2).1; simpa using this
        have hb : b = a := self k d e2 (by subst e2; rw [List.getElem?_set_self hi]) h4
        subst hb
        rw [List.getElem?_set_ne e1] at h1 h3
        exact hs j d1 h1 h3
      · rw [List.getElem?_set_ne e1] at h1 h3
        rw [List.getElem?_set_ne e2] at h2 h4
        exact r.sep j k d1 d2 b h1 h2 h3 h4
/-- a value for a slot; an object of its own is new since Hb -/
def MV (K : PySem.W.Frag) (Hb F H : Hp) (v : V) : Slot → Prop
  | .fz d => Dt K F v d
  | .ow d => ∃ a, v = .ref a ∧ OwnAt K F H a d ∧ F a = none ∧ Hb a = none
  | _ => False
inductive MRow (K : PySem.W.Frag) (Hb F H : Hp) : List V → List Slot → Prop
  | nil : MRow K Hb F H [] []
  | cons {v : V} {s : Slot} {vs : List V} {ss : List Slot} : MV K Hb F H v s → (∀ d, s = .ow d → v ∉ vs) → MRow K Hb F H vs ss → MRow K Hb F H (v :: vs) (s :: ss)
theorem own_keep {a : Addr} {d : D} (e : Ext2 sx F H F1 H1) (b : Base sx F H) (ho : OwnAt K F H a d) (hf : F a = none) (hn : ¬ inSx sx a) : OwnAt K F1 H1 a d ∧ F1 a = none := by
  have h1 := ho.mono e.sF fun o z => e.sH a o z hn
  refine ⟨h1, ?_⟩
  cases z : F1 a with
  | none => rfl
  | some u =>
    rcases e.fr _ _ z with y | y | ⟨xs, rfl⟩
    · rw [hf] at y; cases y
    · obtain ⟨o, ho'⟩ := ho.there
      rw [y] at ho'; cases ho'
    · exact absurd (e.le _ _ z) (ho.notup fun o z => e.sH a o z hn)
abbrev WM := En → (List Slot → Prop) → Prop
def ContM (K : PySem.W.Frag) (sx : Sx) (F H : Hp) (Q : List Slot → Prop) (R : List V → Hp → Prop) : Prop := ∀ ss vs F' H', Q ss → Ext2 sx F H F' H' → MRow K H F' H' vs ss → R vs H'
def SemM (K : PySem.W.Frag) (t : TA) (w : WM) : Prop := ∀ {sx : Sx} {H0 F0 F : Hp} {σ : L2.St} {H : Hp} {η : En} {Q : List Slot → Prop} {R : List V → Hp → Prop}, Rep K sx H0 F0 F σ H η → w η Q → ContM K sx F H Q R → t σ H R
theorem MRow.back (e : Ext2 sx F H F1 H1) {F2 H2 : Hp} : ∀ {vs : List V} {ss : List Slot}, MRow K H1 F2 H2 vs ss → MRow K H F2 H2 vs ss
  | _, _, .nil => .nil
  | _, _, .cons (s := s) h d t => .cons (by
    cases s with
    | fz d => exact h
    | ow d => obtain ⟨a, h1, h2, h3, h4⟩ := h; exact ⟨a, h1, h2, h3, e.back h4⟩
    | _ => exact h.elim) d (MRow.back e t)
theorem MRow.fresh {a : Addr} {o : HO} (hH : Hb a = some o) (hF : F a = none) : ∀ {vs : List V} {ss : List Slot}, MRow K Hb F H vs ss → V.ref a ∉ vs
  | _, _, .nil => by simp
  | _, _, .cons (v := v) (s := s) h d t => by
    intro z
    rcases List.mem_cons.mp z with z | z
    · subst z
      cases s with
      | fz d =>
        cases h with
        | lst q _ => rw [hF] at q; cases q
        | tup q _ => obtain ⟨_, _, q⟩ := q; rw [hF] at q; cases q
        | dK q _ => rw [hF] at q; cases q
        | dT q _ _ => rw [hF] at q; cases q
      | ow d => obtain ⟨a', e, _, _, h4⟩ := h; cases e; rw [hH] at h4; cases h4
      | _ => exact h.elim
    · exact MRow.fresh hH hF t z
end
structure DM (X : Cx) (es : List Expr) (t : TA) (w : WM) : Prop where
  pa : PA X es t
  sem : SemM X.K t w
def wMNil : WM := fun _ Q => Q []
def wMFz (we : WE) (w : WM) : WM := fun η Q => we η fun d => w η fun ss => Q (.fz d :: ss)
def wMOw (we : WE) (w : WM) : WM := fun η Q => we η fun d => w η fun ss => Q (.ow d :: ss)
section
variable {X : Cx} {e : Expr} {es : List Expr} {te : TE} {t : TA} {we : WE} {w : WM}
theorem dm_nil : DM X [] tNil wMNil := ⟨pa_nil, fun r hw k => k [] [] _ _ hw (.refl r.base) .nil⟩
theorem dm_fz (h : DE X e te we) (hr : DM X es t w) (hs : starEach (e :: es) X.env = (false, eval e X.env) :: starEach es X.env := by rfl) : DM X (e :: es) (tCons te t) (wMFz we w) :=
  ⟨pa_cons h.pe hr.pa hs, fun r hw k => h.sem r hw fun d v F1 H1 q e hd => hr.sem (r.ext e) q fun ss vs F2 H2 q2 e2 m => k _ _ F2 H2 q2 (e.trans e2) (.cons (hd.mono e2.sF) (fun _ z => nomatch z) (m.back e))⟩
theorem own_row {K : PySem.W.Frag} {sx : Sx} {H0 F0 F H F1 H1 F2 H2 : Hp} {σ : L2.St} {η : En} {a : Addr} {d : D} {vs : List V} {ss : List Slot} (r : Rep K sx H0 F0 F σ H η) (e : Ext2 sx F H F1 H1) (e2 : Ext2 sx F1 H1 F2 H2) (ho : OwnAt K F1 H1 a d) (hf : F1 a = none) (hn : H a = none) (m : MRow K H1 F2 H2 vs ss) :
    MRow K H F2 H2 (.ref a :: vs) (.ow d :: ss) := by
  have nx : ¬ inSx sx a := fun z => by obtain ⟨o, q⟩ := r.base.ok.there z; rw [hn] at q; cases q
  obtain ⟨g1, g2⟩ := own_keep e2 (e.base r.base) ho hf nx
  obtain ⟨o, g3⟩ := ho.there
  exact .cons ⟨a, rfl, g1, g2, hn⟩ (fun _ _ => m.fresh g3 g2) (m.back e)
theorem dm_ow (h : DL X e te we) (hr : DM X es t w) (hs : starEach (e :: es) X.env = (false, eval e X.env) :: starEach es X.env := by rfl) : DM X (e :: es) (tCons te t) (wMOw we w) :=
  ⟨pa_cons h.pe hr.pa hs, fun r hw k => h.sem r hw fun ds xs a F1 H1 q e h1 h2 h3 h4 => hr.sem (r.ext e) q fun ss vs F2 H2 q2 e2 m => k _ _ F2 H2 q2 (e.trans e2) (own_row (d := .list ds) r e e2 ⟨xs, h1, h2⟩ h3 h4 m)⟩
theorem dm_owD (h : DD X e te we) (hr : DM X es t w) (hs : starEach (e :: es) X.env = (false, eval e X.env) :: starEach es X.env := by rfl) : DM X (e :: es) (tCons te t) (wMOw we w) :=
  ⟨pa_cons h.pe hr.pa hs, fun r hw k => h.sem r hw fun ds a F1 H1 q e h1 h2 h3 => hr.sem (r.ext e) q fun ss vs F2 H2 q2 e2 m => k _ _ F2 H2 q2 (e.trans e2) (own_row r e e2 h1 h2 h3 m)⟩
end
/-- slots set in a row -/
def setAll : L2.St → List Nat → List V → L2.St
  | σ, i :: is, v :: vs => setAll (σ.set i (some v)) is vs
  | σ, _, _ => σ
def setAllE : En → List Nat → List Slot → En
  | η, i :: is, s :: ss => setAllE (η.set i s) is ss
  | η, _, _ => η
theorem Rep.setM {K : PySem.W.Frag} {sx : Sx} {H0 F0 F H Hb : Hp} (h0 : ∀ a, Hb a = none → H0 a = none ∧ ¬ inSx sx a) : ∀ {vs : List V} {ss : List Slot} (is : List Nat) {σ : L2.St} {η : En}, MRow K Hb F H vs ss → Rep K sx H0 F0 F σ H η →
    (∀ (i : Nat) (d : D) (b : Addr), η[i]? = some (.ow d) → σ[i]? = some (some (.ref b)) → Hb b ≠ none ∨ V.ref b ∉ vs) → Rep K sx H0 F0 F (setAll σ is vs) H (setAllE η is ss)
  | _, _, [], _, _, .nil, r, _ => r
  | _, _, [], _, _, .cons _ _ _, r, _ => r
  | _, _, _ :: _, _, _, .nil, r, _ => r
  | _, _, i :: is, σ, η, .cons (v := v) (s := s) (vs := vs) (ss := ss) h d t, r, c => by
    have key : Rep K sx H0 F0 F (σ.set i (some v)) H (η.set i s) ∧ ∀ (j : Nat) (d : D) (b : Addr), (η.set i s)[j]? = some (.ow d) → (σ.set i (some v))[j]? = some (some (.ref b)) → Hb b ≠ none ∨ V.ref b ∉ vs := by
      have old : ∀ (j : Nat) (d : D) (b : Addr), i ≠ j → (η.set i s)[j]? = some (.ow d) → (σ.set i (some v))[j]? = some (some (.ref b)) → Hb b ≠ none ∨ V.ref b ∉ vs := fun j d b ne z1 z2 => by
        rw [List.getElem?_set_ne ne] at z1 z2
        rcases c j d b z1 z2 with q | q
        · exact .inl q
        · exact .inr fun z => q (List.mem_cons_of_mem _ z)
      cases s with
      | fz d =>
        refine ⟨r.setFz i h, fun j d' b z1 z2 => ?_⟩
        by_cases e : i = j
        · subst e
          have hi : i < η.length := by have := (List.getElem?_eq_some_iff.mp z1).1; simpa using this
          rw [List.getElem?_set_self hi] at z1; cases z1
        · exact old j d' b e z1 z2
      | ow d' =>
        obtain ⟨a, rfl, ho, hf, hb⟩ := h
        obtain ⟨g0, gx⟩ := h0 a hb
        refine ⟨r.setOwN i ho hf g0 gx fun j d2 z1 z2 => ?_, fun j d2 b z1 z2 => ?_⟩
        · rcases c j d2 a z1 z2 with q | q
          · exact q hb
          · exact q List.mem_cons_self
        · by_cases e : i = j
          · subst e
            have hi : i < η.length := by have := (List.getElem?_eq_some_iff.mp z1).1; simpa using this
            have hi' : i < σ.length := by rw [← r.len]; exact hi
            rw [List.getElem?_set_self hi'] at z2
            cases z2
            exact .inr (d d' rfl)
          · exact old j d2 b e z1 z2
      | _ => exact h.elim
    exact Rep.setM h0 is t key.1 key.2
theorem Rep.setMs {K : PySem.W.Frag} {sx : Sx} {H0 F0 F H F1 H1 : Hp} {σ : L2.St} {η : En} {vs : List V} {ss : List Slot} (r : Rep K sx H0 F0 F σ H η) (e : Ext2 sx F H F1 H1) (m : MRow K H F1 H1 vs ss) (is : List Nat) : Rep K sx H0 F0 F1 (setAll σ is vs) H1 (setAllE η is ss) := by
  refine Rep.setM (Hb := H) (fun a hn => ?_) is m (r.ext e) (fun i d b z1 z2 => ?_)
  · have nx : ¬ inSx sx a := fun z => by obtain ⟨o, q⟩ := r.base.ok.there z; rw [hn] at q; cases q
    refine ⟨?_, nx⟩
    cases q : H0 a with
    | none => rfl
    | some o => rw [r.s0 a o q nx] at hn; cases hn
  · obtain ⟨a, e1, ho, _⟩ := r.sl i _ _ z1 z2
    cases e1
    obtain ⟨o, q⟩ := ho.there
    exact .inl (by rw [q]; simp)
/-- a, b, .. = x, y, .. : plain names -/
def wPar (is : List Nat) (w : WM) : WS := fun D η => w η fun ss => ss.length = is.length ∧ D.nx (setAllE η is ss)
theorem MRow.length {K : PySem.W.Frag} {Hb F H : Hp} : ∀ {vs : List V} {ss : List Slot}, MRow K Hb F H vs ss → vs.length = ss.length
  | _, _, .nil => rfl
  | _, _, .cons _ _ t => congrArg (· + 1) t.length
section
variable {X : Cx} {a b c : Expr} {ta : TA} {w : WM} {x y z : Str} {px py pz pt pos : Pos} {kt k2 : Nat} {pt2 : Pos}
theorem sem_par2 {K : PySem.W.Frag} {i j : Nat} (h : SemM K ta w) : SemS K (tPar i j ta) (wPar [i, j] w) := fun {sx H0 F0 F σ H η D R} r hw k => h r hw fun ss vs F1 H1 q e m => by
  obtain ⟨v1, v2, rfl⟩ : ∃ v1 v2, vs = [v1, v2] := by
    match vs, m.length.trans q.1 with
    | [v1, v2], _ => exact ⟨v1, v2, rfl⟩
  exact ⟨v1, v2, rfl, k.nx _ _ _ _ q.2 e.sF (r.setMs e m [i, j])⟩
theorem sem_par3 {K : PySem.W.Frag} {i j l : Nat} (h : SemM K ta w) : SemS K (tPar3 i j l ta) (wPar [i, j, l] w) := fun {sx H0 F0 F σ H η D R} r hw k => h r hw fun ss vs F1 H1 q e m => by
  obtain ⟨v1, v2, v3, rfl⟩ : ∃ v1 v2 v3, vs = [v1, v2, v3] := by
    match vs, m.length.trans q.1 with
    | [v1, v2, v3], _ => exact ⟨v1, v2, v3, rfl⟩
  exact ⟨v1, v2, v3, rfl, k.nx _ _ _ _ q.2 e.sF (r.setMs e m [i, j, l])⟩
theorem ds_par2 (i j : Nat) (hc : X.calm = true) (hN : X.N.Nodup) (h : DM X [a, b] ta w) (hi : X.N[i]? = some x := by rfl) (hj : X.N[j]? = some y := by rfl) (hij : i ≠ j := by decide)
    (hx : X.env.scope.names.lookup x = some .local := by rfl) (hy : X.env.scope.names.lookup y = some .local := by rfl)
    (hw : swappedStores [.Tuple [.Name x px, .Name y py] kt pt] (.Tuple [a, b] k2 pt2) X.env = pure (some [x, y]) := by rfl)
    (hs : swapsWithSole [.Tuple [.Name x px, .Name y py] kt pt] (.Tuple [a, b] k2 pt2) pos.line X.env = pure false := by rfl) :
    DS X (.Assign [.Tuple [.Name x px, .Name y py] kt pt] (.Tuple [a, b] k2 pt2) pos) (tPar i j ta) (wPar [i, j] w) := ⟨ps_par hc hN hi hj hij hx hy h.pa hw hs, sem_par2 h.sem⟩
theorem ds_par3 (i j l : Nat) (hc : X.calm = true) (hN : X.N.Nodup) (h : DM X [a, b, c] ta w) (hi : X.N[i]? = some x := by rfl) (hj : X.N[j]? = some y := by rfl) (hl : X.N[l]? = some z := by rfl) (hij : i ≠ j := by decide) (hil : i ≠ l := by decide) (hjl : j ≠ l := by decide)
    (hx : X.env.scope.names.lookup x = some .local := by rfl) (hy : X.env.scope.names.lookup y = some .local := by rfl) (hz : X.env.scope.names.lookup z = some .local := by rfl)
    (hw : swappedStores [.Tuple [.Name x px, .Name y py, .Name z pz] kt pt] (.Tuple [a, b, c] k2 pt2) X.env = pure (some [x, y, z]) := by rfl)
    (hs : swapsWithSole [.Tuple [.Name x px, .Name y py, .Name z pz] kt pt] (.Tuple [a, b, c] k2 pt2) pos.line X.env = pure false := by rfl) :
    DS X (.Assign [.Tuple [.Name x px, .Name y py, .Name z pz] kt pt] (.Tuple [a, b, c] k2 pt2) pos) (tPar3 i j l ta) (wPar [i, j, l] w) := ⟨ps_par3 hc hN hi hj hl hij hil hjl hx hy hz h.pa hw hs, sem_par3 h.sem⟩
/-- .. through a tuple that nobody keeps -/
def tgNames : List Nat → TGs
  | [] => gNil
  | i :: is => gCons (gName i) (tgNames is)
theorem tg_names {Q : L2.St → Hp → Prop} : ∀ (is : List Nat) {vs : List V} {σ : L2.St} {H : Hp}, vs.length = is.length → Q (setAll σ is vs) H → tgNames is vs σ H Q
  | [], [], _, _, _, q => ⟨rfl, q⟩
  | i :: is, v :: vs, _, _, hl, q => ⟨v, vs, rfl, tg_names is (by simpa using hl) q⟩
  | [], _ :: _, _, _, hl, _ => by simp at hl
  | _ :: _, [], _, _, hl, _ => by simp at hl
theorem sem_parT {K : PySem.W.Frag} {is : List Nat} (hz : is.length ≤ 1000) (h : SemM K ta w) : SemS K (tAsg (tTup ta) (gTup K is.length (tgNames is))) (wPar is w) := fun {sx H0 F0 F σ H η D R} r hw k => h r hw fun ss vs F1 H1 q e m => by
  have hl : vs.length = is.length := m.length.trans q.1
  refine ⟨by rw [hl, sizeLine_eq]; omega, fun p hp => ⟨p, vs, rfl, .inl (.inl upd_same), hl, tg_names is hl ?_⟩⟩
  have r1 := r.setMs e m is
  exact k.nx _ _ _ _ q.2 e.sF (r1.ext (.newF r1.base hp))
theorem ds_parT {es : List Expr} {tgs : List Expr} {is : List Nat} (hc : X.calm = true) (h : DM X es ta w) (hg : PGs X tgs (tgNames is)) (hz : is.length ≤ 1000 := by decide) (hn : (assignEach tgs X.env).length = is.length := by rfl) (hst : (assignEach tgs X.env).findIdx? (·.1) = none := by rfl)
    (hs : swapsWithSole [.Tuple tgs kt pt] (.Tuple es k2 pt2) pos.line X.env = pure false := by rfl) (hw : swappedStores [.Tuple tgs kt pt] (.Tuple es k2 pt2) X.env = pure none := by rfl)
    (h1 : (assignEach [.Tuple tgs kt pt] X.env).map (·.2) = [assign (.Tuple tgs kt pt) X.env] := by rfl) : DS X (.Assign [.Tuple tgs kt pt] (.Tuple es k2 pt2) pos) (tAsg (tTup ta) (gTup X.K is.length (tgNames is))) (wPar is w) :=
  ⟨ps_asg (pe_tup h.pa) (pg_tup hc hg hn hst) hs hw h1, sem_parT hz h.sem⟩
theorem pgn_nil : PGs X [] (tgNames []) := pgs_nil
theorem pgn_cons (i : Nat) {es : List Expr} {is : List Nat} (hN : X.N.Nodup) (h : PGs X es (tgNames is)) (hi : X.N[i]? = some x := by rfl) (hx : Loc X.env.scope x := by first | exact Or.inl rfl | exact Or.inr rfl)
    (hs : (assignEach (.Name x px :: es) X.env).map (·.2) = assign (.Name x px) X.env :: (assignEach es X.env).map (·.2) := by rfl) (hf : X.fn x = true ∨ X.env.scope.names.lookup x = some .local := by first | exact .inl rfl | exact .inr rfl) : PGs X (.Name x px :: es) (tgNames (i :: is)) := pgs_cons (pg_name hN hi hx hf) h hs
end
end W2

set_option Elab.async false
set_option linter.all false
set_option maxRecDepth 100000
/-! W2R: x[::-1] of a tuple, list(range), dicts made. -/
namespace W2
open PySem PySem.Spec PyProof.Rows L2

/-! ### x[::-1] -/
section
variable {prog : Program} {w : World} {A : Around} {E : Value → Shared → Prop} {s : Shared}
theorem rev_adjust (n : Nat) : Builtin.Slice.sliceAdjust none none (-1) (n : Int) = ((n : Int) - 1, -1) := rfl
theorem rev_places (n : Nat) : Builtin.Slice.slicePlaces ((n : Int) - 1) (-1) (-1) = n := by
  unfold Builtin.Slice.slicePlaces
  rw [if_neg (by decide)]
  by_cases h : (n : Int) - 1 > -1
  · rw [if_pos h, show (-(-1) : Int) = 1 by decide, Int.ediv_one]
    omega
  · rw [if_neg h]; omega
theorem fm_congr {α β : Type} {f g : α → Option β} : ∀ (l : List α), (∀ x ∈ l, f x = g x) → l.filterMap f = l.filterMap g
  | [], _ => rfl
  | x :: r, h => by
    rw [List.filterMap_cons, List.filterMap_cons, h x List.mem_cons_self, fm_congr r fun y hy => h y (List.mem_cons_of_mem _ hy)]
theorem rev_pick (xs : Array Value) : ((List.range xs.size).filterMap fun (k : Nat) => xs[(((xs.size : Int) - 1) + (k : Int) * (-1)).toNat]?).toArray = xs.toList.reverse.toArray := by
  have e : (List.range xs.size).filterMap (fun (k : Nat) => xs[(((xs.size : Int) - 1) + (k : Int) * (-1)).toNat]?) = ((List.range xs.size).map fun k => xs.size - 1 - k).filterMap (xs[·]?) := by
    rw [List.filterMap_map]
    refine fm_congr _ fun k hk => ?_
    have hk' := List.mem_range.mp hk
    show xs[(((xs.size : Int) - 1) + (k : Int) * (-1)).toNat]? = xs[xs.size - 1 - k]?
    have e1 : (((xs.size : Int) - 1) + (k : Int) * (-1)).toNat = xs.size - 1 - k := by omega
    rw [e1]
  rw [e, PySem.W.krv_range, List.filterMap_reverse, PySem.W.krv_all]
theorem sliceApplied_rev {sl : Addr} {t : Tok} {n : Nat} {Q : Int × Int × Nat → Shared → Prop} (hs : s.heap.IsSliceOf sl .none .none (.int (-1) t)) (h : Q ((n : Int) - 1, -1, n) s) : wpAny (model prog w) A (Builtin.Slice.sliceApplied (.ref sl) (pure (n : Int))) Q E s := by
  obtain ⟨os, hos, hcs, hds⟩ := id hs
  unfold Builtin.Slice.sliceApplied Builtin.Slice.sliceFields
  refine wpAny_bind (wpAny_bind (wpAny_field hos hds (x := .none) rfl (wpAny_bind (wpAny_field hos hds (x := .none) rfl (wpAny_bind (wpAny_field hos hds (x := .int (-1) t) rfl (wpAny_pure ?_)))))))
  refine wpAny_bind (slicePart_int ?_)
  show wpAny _ _ (if ((-1 : Int) == 0) = true then _ else _) _ _ s
  rw [if_neg (by decide)]
  refine wpAny_bind (slicePart_none (wpAny_bind (slicePart_none (wpAny_bind (wpAny_pure ?_)))))
  show wpAny _ _ (match Builtin.Slice.sliceAdjust none none (-1) (n : Int) with | (lo, hi) => pure (lo, (-1 : Int), Builtin.Slice.slicePlaces lo hi (-1))) _ _ s
  rw [rev_adjust]
  show wpAny _ _ (pure ((n : Int) - 1, (-1 : Int), Builtin.Slice.slicePlaces ((n : Int) - 1) (-1) (-1))) _ _ s
  rw [rev_places]
  exact wpAny_pure h
theorem getItem_tuple_rev {t sl : Addr} {items : Array Value} {tk : Tok} {Q : Value → Shared → Prop} (ht : IsTup s.heap t items) (hs : s.heap.IsSliceOf sl .none .none (.int (-1) tk))
    (h : Q (.ref s.heap.objs.size) { s with heap := s.heap.push { cls := .type "tuple", data := .seq items.toList.reverse.toArray } }) (hsz : items.size ≤ sizeLine) : wpAny (model prog w) A (getItem (.ref t) (.ref sl)) Q E s := by
  have hz : sizeOk (.seq items.toList.reverse.toArray) := by
    show items.toList.reverse.toArray.size ≤ sizeLine
    rw [List.size_toArray, List.length_reverse, Array.length_toList]
    exact hsz
  obtain ⟨os, hos, hcs, hds⟩ := id hs
  have hTs : s.TypeIs (.ref sl) "slice" := ⟨os, hos, hcs⟩
  unfold getItem
  try with_reducible refine wpAny_holding ?_
  first | refine wpAny_bind (wpAny_pure ?_) | skip
  refine wpAny_bind (wpAny_sequenceKey ht.typeIs (by decide) ?_)
  refine wpAny_bind (wpAny_callSpecial?_slot (name := Str.ofString "__getitem__") ht.typeIs PyProof.Rows.slot_tuple_getitem
    (wpAny_call_entry PyProof.Rows.slot_tuple_getitem ht.typeIs entry_tuple_getitem ?_ (args_tuple_getitem _ _)))
  show wpAny _ _ (Builtin.Tuple.tupleItemsOf (.ref t) >>= _) _ _ s
  refine wpAny_bind (tupleItemsOf_ ht ?_)
  refine wpAny_bind (wpAny_typeOf hTs ?_)
  rw [if_pos (by decide)]
  refine wpAny_bind (sliceApplied_rev hs ?_)
  show wpAny _ _ (if (((items.size : Int) - 1) == 0 && (-1 : Int) == 1 && items.size == items.size) = true then _ else _) _ _ s
  rw [if_neg (by rw [show ((-1 : Int) == 1) = false by decide, Bool.and_false, Bool.false_and]; exact Bool.false_ne_true), rev_pick]
  first
    | exact wpAny_bind (m := Builtin.Tuple.tupleExact _) (wpAny_newObj_type (wpAny_pure ⟨_, rfl, wpAny_pure h⟩) hz)
    | exact wpAny_bind (m := Builtin.Tuple.tupleExact _) (wpAny_newObj_type (wpAny_bind (wpAny_pure (wpAny_pure ⟨_, rfl, wpAny_pure h⟩))) hz)
    | exact wpAny_bind (wpAny_bind (m := Builtin.Tuple.tupleExact _) (wpAny_newObj_type (wpAny_pure (wpAny_pure ⟨_, rfl, wpAny_pure h⟩)) hz))
    | exact wpAny_bind (wpAny_bind (m := Builtin.Tuple.tupleExact _) (wpAny_newObj_type (wpAny_pure ⟨_, rfl, wpAny_pure h⟩) hz))
end
def tRevT (K : PySem.W.Frag) (te : TE) : TE := fun σ H Q => te σ H fun x H1 => ∃ a xs, x = .ref a ∧ SqT K H1 a xs ∧ mkT H1 xs.reverse Q
def wRevT (we : WE) : WE := fun η Q => we η fun d => match d with
  | .tuple ds => Q (.tuple ds.reverse)
  | _ => False
section
variable {X : Cx} {e : Expr} {te : TE} {we : WE} {k : Nat} {p1 p2 p3 pos : Pos}
theorem pe_revT (he : PE X e te) : PE X (.Subscript e (.Slice none none (some (.UnaryOp .USub (.Constant (.int 1) k p1) p2)) p3) pos) (tRevT X.K te) := by
  refine ⟨fun pins s σ H Q I h => ?_⟩
  refine Subscript_ (thn (he.run pins s σ H _ I h) fun v s1 ⟨x, H1, I1, r1, q1⟩ => ?_)
  obtain ⟨a, xs, ex, hx, q⟩ := q1
  subst ex
  cases r1
  have hst : PO X (some (.UnaryOp .USub (.Constant (.int 1) k p1) p2)) (tPart (tUn (rU fun i => .int (-i)) (tC (.int 1)))) := po_some (pe_un un_neg pe_int)
  refine wpAny_Slice ?_
  refine wpAny_pure (wpAny_pure ?_)
  refine thn (hst.run pins s1 σ H1 (fun o H4 => o = some (-1) ∧ H4 = H1) I1 ⟨1, rfl, -1, rfl, rfl, rfl⟩) fun vs s4 ⟨o, H4, I4, ps, eo, e4⟩ => ?_
  subst eo e4
  obtain ⟨tk, rfl⟩ : ∃ tk, vs = .int (-1) tk := by cases ps; exact ⟨_, rfl⟩
  have I5 : L2.Inv X pins σ H4 { s4 with heap := s4.heap.push { cls := .type "slice", data := .fields #[.none, .none, .int (-1) tk] } } := I4.kept (t' := s4.toks) fun b ob q => Heap.get?_push_of_some _ q
  obtain ⟨its, r, ht, hz⟩ := I5.tuple hx
  have hlen := r.length
  show wpAny (model X.prog X.w) X.A (subscriptTail e (.Slice none none (some (.UnaryOp .USub (.Constant (.int 1) k p1) p2)) p3) (.ref a) (.ref s4.heap.objs.size)) (EP X pins σ Q) X.xe { s4 with heap := s4.heap.push { cls := .type "slice", data := .fields #[.none, .none, .int (-1) tk] } }
  refine tail_any (ops := [.ref a, .ref s4.heap.objs.size]) (Heap.IsTuple.typeIs ht) (PyProof.Rows.slot_tuple_getitem.lookup) ?_ (by with_unfolding_all rfl)
  refine getItem_tuple_rev ht (Heap.IsSliceOf.new _ _ _ _) ?_ (by rw [List.size_toArray]; omega)
  have m := made I5 r.reverse (by rw [List.length_reverse]; exact hz) q s4.toks
  exact m
theorem de_revT (he : DE X e te we) : DE X (.Subscript e (.Slice none none (some (.UnaryOp .USub (.Constant (.int 1) k p1) p2)) p3) pos) (tRevT X.K te) (wRevT we) :=
  ⟨pe_revT he.pe, fun {sx H0 F0 F σ H η Q R} r hw kk => he.sem r hw fun d v F1 H1 q e hd => by
    cases d <;> first | exact q.elim | skip
    cases hd with
    | tup h1 h2 => exact ⟨_, _, rfl, (h1.mono (r.ext e).base.le).sq, (kk.ext e).tup (r.ext e).base q h2.reverse⟩⟩
end

/-! ### list(range(..)), tuple(range(..)) -/
theorem DtL.rg {K : PySem.W.Frag} {F : Hp} (a b : Int) : DtL K F (rgV a b) (rangeD a (b - a).toNat) := by
  unfold rgV rangeD
  generalize List.range (b - a).toNat = l
  induction l with
  | nil => exact .nil
  | cons x r ih => exact .cons (.int _) ih
def rgOk (a b : Int) : Prop := -1073741824 ≤ a ∧ a ≤ 1073741824 ∧ -1073741824 ≤ b ∧ b ≤ 1073741824 ∧ b - a ≤ 16777216
theorem rgOk.ok {a b : Int} (h : rgOk a b) : RgOk a b := by
  obtain ⟨h1, h2, h3, h4, h5⟩ := h
  exact ⟨by omega, by omega, by omega, by omega, by omega⟩
/-- a range as an argument -/
structure DRg (X : Cx) (e : Expr) (t : L2.St → Hp → (Int → Int → Hp → Prop) → Prop) (w : En → (Int → Int → Prop) → Prop) : Prop where
  run : PRg X e t
  sem : ∀ {sx : Sx} {H0 F0 F : Hp} {σ : L2.St} {H : Hp} {η : En} {Q : Int → Int → Prop} {R : Int → Int → Hp → Prop}, Rep X.K sx H0 F0 F σ H η → w η Q → (∀ a b F' H', Q a b → Ext2 sx F H F' H' → R a b H') → t σ H R
def wR1 (wa : WE) : En → (Int → Int → Prop) → Prop := fun η Q => wa η fun d => match d with
  | .int n => Q 0 n
  | _ => False
def wR2 (wa wb : WE) : En → (Int → Int → Prop) → Prop := fun η Q => wa η fun d => wb η fun e => match d, e with
  | .int m, .int n => Q m n
  | _, _ => False
section
variable {X : Cx} {a b : Expr} {ta tb : TE} {wa wb : WE} {p pos : Pos}
theorem drg_1 (hg : Gl X "range") (hm : X.mg "range" = none) (ha : DO X a ta wa) (na : starEach [a] X.env = (false, eval a X.env) :: starEach [] X.env := by rfl) : DRg X (.Call (.Name "range" p) [a] [] pos) (tRg1 ta) (wR1 wa) :=
  ⟨prg_1 hg hm ha.pe na, fun {sx H0 F0 F σ H η Q R} r hw k => ha.sem r hw fun d v F1 H1 q e o => by
    cases d <;> first | exact q.elim | skip
    cases (o.nw (r.ext e)).int
    exact ⟨_, rfl, k _ _ F1 H1 q e⟩⟩
theorem drg_2 (hg : Gl X "range") (hm : X.mg "range" = none) (ha : DO X a ta wa) (hb : DO X b tb wb) (na : starEach [a, b] X.env = (false, eval a X.env) :: starEach [b] X.env := by rfl)
    (nb : starEach [b] X.env = (false, eval b X.env) :: starEach [] X.env := by rfl) (hp : (backTo pos (starEach [b] X.env)).any (·.1) = false := by rfl) : DRg X (.Call (.Name "range" p) [a, b] [] pos) (tRg2 ta tb) (wR2 wa wb) :=
  ⟨prg_2 hg hm ha.pe hb.pe na nb hp, fun {sx H0 F0 F σ H η Q R} r hw k => ha.sem r hw fun d v F1 H1 q1 e1 o1 => hb.sem (r.ext e1) q1 fun d2 v2 F2 H2 q e2 o2 => by
    cases d <;> cases d2 <;> first | exact q.elim | skip
    have r2 := (r.ext e1).ext e2
    cases ((o1.mono e2.sF).nw r2).int
    cases (o2.nw r2).int
    exact ⟨_, _, rfl, rfl, k _ _ F2 H2 q (e1.trans e2)⟩⟩
end
def wLstRg (w : En → (Int → Int → Prop) → Prop) : WE := fun η Q => w η fun a b => rgOk a b ∧ Q (.list (rangeD a (b - a).toNat))
def wTupRg (w : En → (Int → Int → Prop) → Prop) : WE := fun η Q => w η fun a b => rgOk a b ∧ Q (.tuple (rangeD a (b - a).toNat))
section
variable {X : Cx} {e : Expr} {t : L2.St → Hp → (Int → Int → Hp → Prop) → Prop} {w : En → (Int → Int → Prop) → Prop} {p pos : Pos}
theorem dl_listRg (hc : X.calm = true) (hg : Gl X "list") (hm : X.mg "list" = none) (h : DRg X e t w) (na : starEach [e] X.env = (false, eval e X.env) :: starEach [] X.env := by rfl) : DL X (.Call (.Name "list" p) [e] [] pos) (tLstRg t) (wLstRg w) :=
  ⟨pe_listRg hc hg hm h.run na, fun {sx H0 F0 F σ H η Q R} r hw k => h.sem r hw fun a b F1 H1 q e => ⟨q.1.ok, (k.ext e).new (r.ext e).base q.2 (.rg a b)⟩⟩
theorem de_tupRg (hc : X.calm = true) (hg : Gl X "tuple") (hm : X.mg "tuple" = none) (h : DRg X e t w) (na : starEach [e] X.env = (false, eval e X.env) :: starEach [] X.env := by rfl) : DE X (.Call (.Name "tuple" p) [e] [] pos) (tTupRgN t) (wTupRg w) :=
  ⟨pe_tupRgN hc hg hm h.run na, fun {sx H0 F0 F σ H η Q R} r hw k => h.sem r hw fun a b F1 H1 q e => ⟨q.1.ok, (k.ext e).tup (r.ext e).base q.2 (.rg a b)⟩⟩
end

/-! ### dicts made -/
theorem ContD.new {K : PySem.W.Frag} {sx : Sx} {F H : Hp} {Q : D → Prop} {R : VK} (k : ContD K sx F H Q R) (b : Base sx F H) {es : List (D × D)} {o : HO} (q : Q (.dict es)) {p : Addr} (hp : H p = none) (ho : OwnAt K F (upd H p o) p (.dict es)) : R (.ref p) (upd H p o) := by
  refine k es p F (upd H p o) q (.newF b hp) ho ?_ hp
  cases z : F p with
  | none => rfl
  | some u => rw [b.le _ _ z] at hp; cases hp
def wDNew : WE := fun _ Q => Q (.dict [])
section
variable {X : Cx} {pos : Pos}
theorem dd_nil : DD X (.Dict [] [] pos) tDNewK wDNew := ⟨pe_dnewK, fun r hw k p hp => k.new r.base hw hp (.inl ⟨[], upd_same, .nil⟩)⟩
end
/-- the pairs of a list: (key, value) with flat keys -/
def pairsK : List D → Option (List (Key × D))
  | [] => some []
  | .tuple [.int i, v] :: r => (pairsK r).map ((.inl i, v) :: ·)
  | .tuple [.str x, v] :: r => (pairsK r).map ((.inr x, v) :: ·)
  | _ => none
def mergeD (kvs : List (Key × D)) : List (D × D) := kvs.foldl (fun acc kv => dPut acc (kD kv.1) kv.2) []
def gDictP : List D → (D → Prop) → Prop
  | [.list ds], Q => ∃ kvs, pairsK ds = some kvs ∧ Q (.dict (mergeD kvs))
  | [.dict es], Q => Q (.dict es)
  | _, _ => False
theorem pairs_dt {K : PySem.W.Frag} {F H : Hp} (le : Same F H) : ∀ {ds : List D} {vs : List V} {kvs : List (Key × D)}, DtL K F vs ds → pairsK ds = some kvs → ∃ (ps : List Addr) (kvv : List (Key × V)), vs = ps.map V.ref ∧ Paired (fun p kv => SqT K H p [kV kv.1, kv.2]) ps kvv ∧ Paired (fun (x : Key × V) (y : Key × D) => x.1 = y.1 ∧ Dt K F x.2 y.2) kvv kvs
  | [], _, _, .nil, e => by
    cases e
    exact ⟨[], [], rfl, .nil, .nil⟩
  | d :: ds, _, kvs, .cons (v := v0) (vs := vs0) h t, e => by
    have go : ∀ (k : Key) (v : D) (r : List (Key × D)), d = .tuple [kD k, v] → pairsK ds = some r → kvs = (k, v) :: r →
        ∃ (ps : List Addr) (kvv : List (Key × V)), v0 :: vs0 = ps.map V.ref ∧ Paired (fun p kv => SqT K H p [kV kv.1, kv.2]) ps kvv ∧ Paired (fun (x : Key × V) (y : Key × D) => x.1 = y.1 ∧ Dt K F x.2 y.2) kvv kvs := fun k v r e1 e2 e3 => by
      obtain ⟨ps, kvv, h1, h2, h3⟩ := pairs_dt le t e2
      subst e1 e3
      cases h with
      | tup h4 h5 =>
        rename_i a xs
        cases h5 with
        | cons a1 a2 =>
          cases a2 with
          | cons a3 a4 =>
            cases a4
            have ek := a1.keyV
            subst ek
            exact ⟨a :: ps, (k, _) :: kvv, by rw [List.map_cons, h1], .cons (h4.mono le).sq h2, .cons ⟨rfl, a3⟩ h3⟩
    unfold pairsK at e
    split at e
    · rename_i heq; cases heq
    · rename_i i v r heq
      cases heq
      cases q : pairsK ds with
      | none => rw [q] at e; cases e
      | some r => rw [q] at e; cases e; exact go (.inl i) v r rfl q rfl
    · rename_i i v r heq
      cases heq
      cases q : pairsK ds with
      | none => rw [q] at e; cases e
      | some r => rw [q] at e; cases e; exact go (.inr i) v r rfl q rfl
    · cases e
theorem merge_dt {K : PySem.W.Frag} {F : Hp} : ∀ {kvv : List (Key × V)} {kvs : List (Key × D)} {acc : List (Key × V)} {es : List (D × D)}, Paired (fun (x : Key × V) (y : Key × D) => x.1 = y.1 ∧ Dt K F x.2 y.2) kvv kvs → DtK K F acc es →
    DtK K F (kvv.foldl (fun acc kv => putK acc kv.1 kv.2) acc) (kvs.foldl (fun acc kv => dPut acc (kD kv.1) kv.2) es)
  | _, _, _, _, .nil, h => h
  | _, _, acc, es, .cons (a := x) (b := y) hx t, h => by
    obtain ⟨e, hv⟩ := hx
    refine merge_dt t (acc := putK acc x.1 x.2) (es := dPut es (kD y.1) y.2) ?_
    rw [← e]
    exact h.put hv
def CSemD (K : PySem.W.Frag) (r : List V → Hp → VK → Prop) (g : List D → (D → Prop) → Prop) : Prop :=
  ∀ {sx : Sx} {F H : Hp} {vs : List V} {ds : List D} {Q : D → Prop} {R : VK}, Base sx F H → Paired (Nw K F H) vs ds → g ds Q → ContD K sx F H Q R → r vs H R
def rDictA (K : PySem.W.Frag) : List V → Hp → VK → Prop := fun xs H Q => (∃ (a : Addr) (ps : List Addr) (kvs : List (Key × V)), xs = [.ref a] ∧ SqL K H a (ps.map V.ref) ∧ Paired (fun p kv => SqT K H p [kV kv.1, kv.2]) ps kvs ∧ ∀ p, H p = none → Q (.ref p) (upd H p (.dK (mergeK [] kvs)))) ∨
  ∃ (a : Addr) (kvs : List (Key × V)), xs = [.ref a] ∧ Rd H a (.dK kvs) ∧ ∀ p, H p = none → Q (.ref p) (upd H p (.dK kvs))
theorem cr_dict {X : Cx} (hc : X.calm = true) : CallR X (.type "dict") (rDictA X.K) := CallR.or (call_dictP hc) call_dictD
def dictFlat (es : List (D × D)) : Bool := es.all fun e => match e.1 with
  | .tuple _ => false
  | _ => true
def gDictA : List D → (D → Prop) → Prop
  | [.list ds], Q => ∃ kvs, pairsK ds = some kvs ∧ Q (.dict (mergeD kvs))
  | [.dict es], Q => dictFlat es = true ∧ es ≠ [] ∧ Q (.dict es)
  | _, _ => False
theorem cs_dict {K : PySem.W.Frag} : CSemD K (rDictA K) gDictA := fun {sx F H vs ds Q R} b h hg k => by
  match ds, hg with
  | [.list ds], hg =>
    obtain ⟨kvs, e, q⟩ := hg
    obtain ⟨v, rfl, hv⟩ := Nws.one h
    obtain ⟨a, xs, rfl, h1, h2⟩ := hv.list b.le
    obtain ⟨ps, kvv, rfl, h3, h4⟩ := pairs_dt b.le h2 e
    exact .inl ⟨a, ps, kvv, rfl, SqL.of h1, h3, fun p hp => k.new b q hp (.inl ⟨_, upd_same, merge_dt h4 .nil⟩)⟩
  | [.dict es], hg =>
    obtain ⟨f, ne, q⟩ := hg
    obtain ⟨v, rfl, hv⟩ := Nws.one h
    obtain ⟨a, rfl, hd⟩ := hv.dict b.le
    rcases hd with ⟨kvs, rd, hd⟩ | ⟨_, kvs, rd, _, hd⟩
    · exact .inr ⟨a, kvs, rfl, rd, fun p hp => k.new b q hp (.inl ⟨_, upd_same, hd⟩)⟩
    · cases hd with
      | nil => exact absurd rfl ne
      | cons _ _ => cases f
section
variable {X : Cx} {id T : String} {r : List V → Hp → VK → Prop} {g : List D → (D → Prop) → Prop} {x : Str} {p pos : Pos} {e : Expr} {es : List Expr} {ta : TA} {wa : WA}
theorem sem_cbD {K : PySem.W.Frag} (hs : CSemD K r g) (ha : SemA K ta wa) : SemD K (tCB r ta) (wCall g wa) := fun {sx H0 F0 F σ H η Q R} rp hw k => ha rp hw fun ds vs F1 H1 q e o => hs (rp.ext e).base (o.nws (rp.ext e)) q (k.ext e)
theorem dd_callT (hc : CallR X (.type T) r) (hs : CSemD X.K r g) (hv : bootBuiltins x = some (.type T)) (hg : Gl X x) (hm : X.mg x = none) (ha : DA X (e :: es) ta wa) (hn : x ≠ "__name__" := by decide) (hdb : (x == ("__debug__" : Str)) = false := by decide)
    (he : starEach (e :: es) X.env = (false, eval e X.env) :: starEach es X.env := by rfl) (hpl : (backTo pos (starEach es X.env)).any (·.1) = false := by rfl) : DD X (.Call (.Name x p) (e :: es) [] pos) (tCB r ta) (wCall g wa) :=
  ⟨pe_callTy hc hg hm hv ha.pa hn hdb he hpl, sem_cbD hs ha.sem⟩
end
end W2

set_option Elab.async false
set_option linter.all false
set_option maxRecDepth 100000
/-! W2N: an item of anything; ints' operators by name; room. -/
namespace W2
open PySem PySem.Spec PyProof.Rows L2

section
variable {X : Cx} {a b : Expr} {ta tb : TE} {wa wb : WE} {pos : Pos}
def rIxDct : R2 := fun x y H Q => ∃ a v, x = .ref a ∧ DGetE H a y (some v) ∧ Q v H
theorem ix_dict (hu : X.A.units + 1 < cLine) : IxR X rIxDct := by
  intro value slice pins s σ H x y v u Q I rx ry h hs
  obtain ⟨a, z, rfl, g, q⟩ := h
  obtain rfl : v = Value.ref a := rx
  exact PyProof.Rows.tail_any (dict_typeIsE I g) PySem.F.slot_dict_getitem.lookup (d_getItemE hu I g ry fun w' s3 I3 rw' => ⟨z, H, I3, rw', q⟩) hs
def gIxA : D → D → (D → Prop) → Prop
  | .dict es, k, Q => gIxD (.dict es) k Q
  | d, k, Q => gIx d k Q
theorem de_ixA (hu : X.A.units + 1 < cLine) (hs : PlainIx b) (ha : DO X a ta wa) (hb : DE X b tb wb) : DE X (.Subscript a b pos) (tOp (fun x y H Q => rIx X.K x y H Q ∨ rIxDct x y H Q) ta tb) (w2 gIxA wa wb) :=
  ⟨pe_ix (IxR.or ix_seq (ix_dict hu)) ha.pe hb.pe hs, fun {sx H0 F0 F σ H η Q R} r hw k => ha.sem r hw fun d x F1 H1 q1 e1 o1 => hb.sem (r.ext e1) q1 fun kd y F2 H2 q2 e2 hy => by
    have r2 := (r.ext e1).ext e2
    have nx := (o1.mono e2.sF).nw r2
    have kk := k.ext (e1.trans e2)
    cases d <;> first | exact .inl (rs_ix r2.base nx (.inl hy) q2 kk) | skip
    obtain ⟨g1, g2, z, g3, q⟩ := q2
    obtain ⟨a, ov, rfl, _, g, rel⟩ := Nw.dgetE r2.base nx hy g1 g2
    rw [g3] at rel
    obtain ⟨v, rfl, hv⟩ := rel.some
    exact .inr ⟨a, v, rfl, g, kk.now r2.base q hv⟩⟩
end
/-! ### ints -/
abbrev gSubI := gI fun i j => .int (i - j)
abbrev gMulI := gIC CMulW fun i j => .int (i * j)
abbrev gFdivI := gIC CDiv fun i j => .int (i / j)
abbrev gModI := gIC (fun _ j => 0 < j) fun i j => .int (i % j)
abbrev gPowI := gIC CPow fun i j => .int (i ^ j.toNat)
abbrev gShlI := gIC CPow fun i j => .int (i * 2 ^ j.toNat)
abbrev gLtI := gI fun i j => .bool (decide (i < j))
abbrev gLeI := gI fun i j => .bool (decide (i ≤ j))
abbrev gGtI := gI fun i j => .bool (decide (j < i))
abbrev gGeI := gI fun i j => .bool (decide (j ≤ i))
section
variable {K : PySem.W.Frag}
theorem rs_subI : RSem K (rI0 fun i j => .int (i - j)) gSubI := rs_I fun _ _ _ => .int _
theorem rs_mulI : RSem K (rI CMulW fun i j => .int (i * j)) gMulI := rs_IC fun _ _ _ => .int _
theorem rs_fdivI : RSem K (rI CDiv fun i j => .int (i / j)) gFdivI := rs_IC fun _ _ _ => .int _
theorem rs_modI : RSem K (rI (fun _ j => 0 < j) fun i j => .int (i % j)) gModI := rs_IC fun _ _ _ => .int _
theorem rs_powI : RSem K (rI CPow fun i j => .int (i ^ j.toNat)) gPowI := rs_IC fun _ _ _ => .int _
theorem rs_shlI : RSem K (rI CPow fun i j => .int (i * 2 ^ j.toNat)) gShlI := rs_IC fun _ _ _ => .int _
theorem rs_ltI : RSem K (rI0 fun i j => .bl (decide (i < j))) gLtI := rs_I fun _ _ _ => .bl _
theorem rs_leI : RSem K (rI0 fun i j => .bl (decide (i ≤ j))) gLeI := rs_I fun _ _ _ => .bl _
theorem rs_gtI : RSem K (rI0 fun i j => .bl (decide (j < i))) gGtI := rs_I fun _ _ _ => .bl _
theorem rs_geI : RSem K (rI0 fun i j => .bl (decide (j ≤ i))) gGeI := rs_I fun _ _ _ => .bl _
end
/-! ### methods of a slot's own list -/
section
variable {X : Cx} {e o : Expr} {ta : TA} {wa : WA} {apos cpos pos : Pos}
theorem ds_append (i : Nat) (ha : DB X [e] ta wa) (hn : PE X o (tVar i)) (hbase : attributeBase o "append" X.env (eval o X.env) = eval o X.env := by rfl)
    (hfew : ((backTo cpos (starEach [e] X.env)).all (fun x => !x.1) && (backToKw cpos (keywordEach [] X.env)).all (fun x => x.1.isSome)
      && decide (([e] : List Expr).length + ([] : List Keyword).length + (if ([] : List Keyword).isEmpty then 0 else 1) < 30)) = true := by rfl)
    (hline : (apos.endLine == cpos.line) = true := by rfl) (hs : starEach [e] X.env = (false, eval e X.env) :: starEach [] X.env := by rfl) (hplain : (backTo cpos (starEach [] X.env)).any (·.1) = false := by rfl)
    (hsw : swapsWith (.Call (.Attribute o "append" apos) [e] [] cpos) none pos.line X.env = pure false := by rfl) :
    DS X (.Expr (.Call (.Attribute o "append" apos) [e] [] cpos) pos) (tAsg (tBM X.K "list" rAppend (tVar i) ta) tgDrop) (wMutE i gAppend wa fun _ η Q => Q η) :=
  ds_mut i ms_append ha (pe_bm PySem.F.plainAttrs_list PySem.F.slot_list_append PySem.F.type_list_append mt_append hn ha.pa hbase hfew hline hs hplain) hsw
theorem ds_extend (i : Nat) (ha : DB X [e] ta wa) (hn : PE X o (tVar i)) (hbase : attributeBase o "extend" X.env (eval o X.env) = eval o X.env := by rfl)
    (hfew : ((backTo cpos (starEach [e] X.env)).all (fun x => !x.1) && (backToKw cpos (keywordEach [] X.env)).all (fun x => x.1.isSome)
      && decide (([e] : List Expr).length + ([] : List Keyword).length + (if ([] : List Keyword).isEmpty then 0 else 1) < 30)) = true := by rfl)
    (hline : (apos.endLine == cpos.line) = true := by rfl) (hs : starEach [e] X.env = (false, eval e X.env) :: starEach [] X.env := by rfl) (hplain : (backTo cpos (starEach [] X.env)).any (·.1) = false := by rfl)
    (hsw : swapsWith (.Call (.Attribute o "extend" apos) [e] [] cpos) none pos.line X.env = pure false := by rfl) :
    DS X (.Expr (.Call (.Attribute o "extend" apos) [e] [] cpos) pos) (tAsg (tBM X.K "list" rExtend (tVar i) ta) tgDrop) (wMutE i gExtend wa fun _ η Q => Q η) :=
  ds_mut i ms_extend ha (pe_bm PySem.F.plainAttrs_list PySem.F.slot_list_extend PySem.F.type_list_extend mt_extend hn ha.pa hbase hfew hline hs hplain) hsw
end
theorem dl_lcV {X : Cx} {elt tg iter : Expr} {ifs : List Expr} {scope : Scope} {vs : List Nat} {pos : Pos} {wi : TI} {wI : WI} {g : TG} {wg : WG} {L : List Nat} {tt : TT} {wt : WT} {te : TE} {we : WE} (hc : X.calm = true) (hN : X.N.Nodup) (hi : DI X tg iter wi wI) (own : List (Str × Nat)) (ok : BlkOk X.N X.env.scope scope own)
    (hg : ∀ (s : Shared) (H : Hp) (C : Addr) (cl : List (Str × Addr)) (fp : List Addr), DG (compX X scope s H C cl fp) tg g wg L) (ht : ∀ (s : Shared) (H : Hp) (C : Addr) (cl : List (Str × Addr)) (fp : List Addr), DTT (compX X scope s H C cl fp) ifs tt wt)
    (he : ∀ (s : Shared) (H : Hp) (C : Addr) (cl : List (Str × Addr)) (fp : List Addr), DE (compX X scope s H C cl fp) elt te we) (hL : ∀ i ∈ L, i ∈ own.map (·.2)) (hv : own.map (·.2) = vs := by rfl) (hs : ∀ x, foldedSetIterable iter X.env x = pure x := by intro _; rfl) :
    DL X (.ListComp elt [⟨tg, iter, ifs, 0⟩] scope pos) (tLc wi g tt te vs) (wLc wI wg wt we vs) := by
  subst hv
  exact dl_lc hc hN hi ok hg ht he hL hs
/-- name = [.. for ..] on one line, the list frozen at once -/
theorem ds_lcF (i : Nat) {X : Cx} {y : Str} {py : Pos} {elt tg iter : Expr} {ifs : List Expr} {scope : Scope} {vs : List Nat} {pos spos : Pos} {wi : TI} {wI : WI} {g : TG} {wg : WG} {L : List Nat} {tt : TT} {wt : WT} {te : TE} {we : WE} (hc : X.calm = true) (hN : X.N.Nodup) (hi : DI X tg iter wi wI) (own : List (Str × Nat)) (ok : BlkOk X.N X.env.scope scope own)
    (hg : ∀ (s : Shared) (H : Hp) (C : Addr) (cl : List (Str × Addr)) (fp : List Addr), DG (compX X scope s H C cl fp) tg g wg L) (ht : ∀ (s : Shared) (H : Hp) (C : Addr) (cl : List (Str × Addr)) (fp : List Addr), DTT (compX X scope s H C cl fp) ifs tt wt)
    (he : ∀ (s : Shared) (H : Hp) (C : Addr) (cl : List (Str × Addr)) (fp : List Addr), DE (compX X scope s H C cl fp) elt te we) (hL : ∀ i ∈ L, i ∈ own.map (·.2)) (hv : own.map (·.2) = vs := by rfl) (hy : X.N[i]? = some y := by rfl) (hyl : X.env.scope.names.lookup y = some .local := by rfl)
    (hsw : swapsWith (.ListComp elt [⟨tg, iter, ifs, 0⟩] scope pos) (some (.Name y py)) spos.line X.env = pure true := by rfl) (hs : ∀ x, foldedSetIterable iter X.env x = pure x := by intro _; rfl) :
    DS X (.Assign [.Name y py] (.ListComp elt [⟨tg, iter, ifs, 0⟩] scope pos) spos) (tAsg (tLc wi g tt te vs) (gName i)) (wAsg (wLc wI wg wt we vs) (wGn i)) := by
  subst hv
  exact ⟨ps_setLc hc hN hy hyl hsw hi.pi ok (fun s H C cl fp => (hg s H C cl fp).pg) (fun s H C cl fp => (ht s H C cl fp).pts) (fun s H C cl fp => (he s H C cl fp).pe) hs,
    sem_asg (SemL.fr (sem_lc hi.sem (hg {} (fun _ => none) 0 [] []).sem (ht {} (fun _ => none) 0 [] []).sem (he {} (fun _ => none) 0 [] []).sem hL)) sem_gname⟩
/-- .. and its own -/
theorem ds_lcL (i : Nat) {X : Cx} {y : Str} {py : Pos} {elt tg iter : Expr} {ifs : List Expr} {scope : Scope} {vs : List Nat} {pos spos : Pos} {wi : TI} {wI : WI} {g : TG} {wg : WG} {L : List Nat} {tt : TT} {wt : WT} {te : TE} {we : WE} (hc : X.calm = true) (hN : X.N.Nodup) (hi : DI X tg iter wi wI) (own : List (Str × Nat)) (ok : BlkOk X.N X.env.scope scope own)
    (hg : ∀ (s : Shared) (H : Hp) (C : Addr) (cl : List (Str × Addr)) (fp : List Addr), DG (compX X scope s H C cl fp) tg g wg L) (ht : ∀ (s : Shared) (H : Hp) (C : Addr) (cl : List (Str × Addr)) (fp : List Addr), DTT (compX X scope s H C cl fp) ifs tt wt)
    (he : ∀ (s : Shared) (H : Hp) (C : Addr) (cl : List (Str × Addr)) (fp : List Addr), DE (compX X scope s H C cl fp) elt te we) (hL : ∀ i ∈ L, i ∈ own.map (·.2)) (hv : own.map (·.2) = vs := by rfl) (hy : X.N[i]? = some y := by rfl) (hyl : X.env.scope.names.lookup y = some .local := by rfl)
    (hsw : swapsWith (.ListComp elt [⟨tg, iter, ifs, 0⟩] scope pos) (some (.Name y py)) spos.line X.env = pure true := by rfl) (hs : ∀ x, foldedSetIterable iter X.env x = pure x := by intro _; rfl) :
    DS X (.Assign [.Name y py] (.ListComp elt [⟨tg, iter, ifs, 0⟩] scope pos) spos) (tAsg (tLc wi g tt te vs) (gName i)) (wAsgL (wLc wI wg wt we vs) i) := by
  subst hv
  exact ⟨ps_setLc hc hN hy hyl hsw hi.pi ok (fun s H C cl fp => (hg s H C cl fp).pg) (fun s H C cl fp => (ht s H C cl fp).pts) (fun s H C cl fp => (he s H C cl fp).pe) hs,
    sem_asgL (sem_lc hi.sem (hg {} (fun _ => none) 0 [] []).sem (ht {} (fun _ => none) 0 [] []).sem (he {} (fun _ => none) 0 [] []).sem hL)⟩
theorem bt_sorted : bootBuiltins "sorted" = some (.builtin "sorted") := by decide +kernel
theorem bt_repr : bootBuiltins "repr" = some (.builtin "repr") := by decide +kernel
theorem bt_abs : bootBuiltins "abs" = some (.builtin "abs") := by decide +kernel
theorem bt_max : bootBuiltins "max" = some (.builtin "max") := by decide +kernel
theorem bt_min : bootBuiltins "min" = some (.builtin "min") := by decide +kernel
theorem bt_sum : bootBuiltins "sum" = some (.builtin "sum") := by decide +kernel
theorem bt_all : bootBuiltins "all" = some (.builtin "all") := by decide +kernel
theorem bt_any : bootBuiltins "any" = some (.builtin "any") := by decide +kernel
/-! ### room -/
section
variable {A : Around} {k : Nat}
theorem un1 (h : Room k A) : A.units + 1 < cLine := by have := h.un; omega
theorem un64 (h : Room k A) : A.units + 64 < cLine := by have := h.un; omega
theorem un65 (h : Room k A) : A.units + 65 < cLine := by have := h.un; omega
theorem un70 (h : Room k A) : A.units + 70 < cLine := by have := h.un; omega
end
end W2

set_option Elab.async false
set_option linter.all false
set_option maxRecDepth 100000
/-! W2L: from the law's promise to the statement. -/
namespace W2
open PySem PySem.Spec PyProof.Rows L2

/-- what a law promises: True, whatever the script -/
def spLawG (K : PySem.W.Frag) : Sp := fun vs H Q _ => ∃ (a : Addr) (ns : List Int), vs = [.ref a] ∧ SqL K H a (ns.map V.int) ∧ ns.length ≤ 63 ∧ ∀ H', Q (.bl true) H'
def lawE (N : List Str) : En := (List.replicate N.length Slot.un).set 1 .src
theorem rep_law {K : PySem.W.Frag} {H : Hp} {N : List Str} {a b c : Addr} (hN : 2 ≤ N.length) (h : SrcAt H a b) : Rep K (some (a, b)) H (fun _ => none) (fun _ => none) ((L2.start N [.ref c]).set 1 (some (.ref a))) H (lawE N) where
  base := ⟨fun _ _ q => (nomatch q), h, fun _ _ => rfl⟩
  s0 := fun _ _ q _ => q
  f0 := Same.refl _
  fr := fun _ _ q => nomatch q
  len := by
    unfold lawE L2.start
    simp only [List.length_set, List.length_replicate, List.length_append, List.length_map, List.length_singleton]
    omega
  sl := fun i s v h1 h2 => by
    unfold lawE at h1
    by_cases e : i = 1
    · subst e
      rw [List.getElem?_set_self (by rw [List.length_replicate]; omega)] at h1
      cases h1
      rw [List.getElem?_set_self (by unfold L2.start; simp only [List.length_append, List.length_map, List.length_singleton, List.length_replicate]; omega)] at h2
      cases h2
      exact ⟨a, b, rfl, rfl⟩
    · rw [List.getElem?_set_ne (Ne.symm e), List.getElem?_replicate] at h1
      split at h1
      · cases h1; trivial
      · cases h1
  sep := fun i j d e a h1 _ _ _ => by
    exfalso
    unfold lawE at h1
    by_cases e : i = 1
    · subst e
      by_cases hl : 1 < N.length
      · rw [List.getElem?_set_self (by rw [List.length_replicate]; omega)] at h1
        cases h1
      · omega
    · rw [List.getElem?_set_ne (Ne.symm e), List.getElem?_replicate] at h1
      split at h1
      · cases h1
      · cases h1
/-- THE LAW'S DEF keeps its promise -/
theorem fn_law {P : Program} {w : World} {K : PySem.W.Frag} {mg : Str → Option Value} {base : Heap} {k : Nat} {f : Addr} {x qual : Str} {st : Stmt} {fd : FuncData} {N : List Str} {p0 : Str} {wb : WS} (F : Fun K x qual st f fd) (S : FnScope N [p0] (defScope st)) (hN : 2 ≤ N.length)
    (hbody : ∀ (cdv : Value) (A : Around) (outer : List Env) (s : Shared) (H : Hp), Room k (A.deeper (envOfC qual (defScope st) s.heap.objs.size f cdv)) → (A.deeper (envOfC qual (defScope st) s.heap.objs.size f cdv)).guards = some [] →
      ∃ st0 rest t, defBody st = st0 :: rest ∧ PS (cxOf CX0 P w K mg base N qual (defScope st) f cdv A outer s H E0).nox st0 (tAsg (tCall (spSource K) [] E0 (tCons (tVar 0) tNil)) (gName 1)) ∧ DSs (cxOf CX0 P w K mg base N qual (defScope st) f cdv A outer s H E0).nox rest t wb)
    (hw : wb { nx := fun _ => False, rt := fun d => d = .bool true } (lawE N)) : FnG P w K mg base (k + 1) f fd [p0] (spLawG K) := by
  refine fnG_of F S (fun vs H Q E h => ?_) fun cdv A outer s H vs Q hr hG h => ?_
  · obtain ⟨a, ns, rfl, _⟩ := h
    rfl
  · obtain ⟨a, ns, rfl, hS, hl, q⟩ := h
    obtain ⟨st0, rest, t, eb, h0, ht⟩ := hbody cdv A outer s H hr hG
    have hs : SemS K t wb := ht.sem
    refine ⟨_, by rw [eb]; exact pss_cons h0 ht.pss, ?_⟩
    have hl1 : 1 ≤ N.length := by omega
    refine ⟨.ref a, ?_, a, ns, rfl, hS, Nat.lt_of_le_of_lt hl (by decide), fun a' b' H' sm sr => ?_⟩
    · unfold L2.start
      rfl
    · refine hs (rep_law (c := a) hN sr) hw ⟨fun _ _ _ _ z => z.elim, fun _ _ _ _ z => z.elim, fun _ _ _ _ z => z.elim, fun d v F' H'' z e hd => ?_⟩
      cases z
      cases hd
      exact q H''

def onlyH (a : Addr) (o : HO) : Hp := fun b => if b = a then some o else none
theorem lawG_core {P : Program} {w : World} {K : PySem.W.Frag} {mg mb : Str → Option Value} {k : Nat} {fa a : Addr} {fd : FuncData} {x : Str} {s : Shared} {vs : List Value} {ns : List Int} (H : Hp)
    (KX : K.In s.heap) (hns : s.heap.Ns mainGlobals mg) (hb : s.heap.Ns builtinsNs mb) (hbb : ∀ x : Str, x ≠ "__name__" → mb x = bootBuiltins x) (hlim : s.heap.NoLimit) (hg : s.gens = #[])
    (ha : s.heap.get? a = some { cls := .type "list", data := .seq vs.toArray }) (hl : ns.length ≤ 63) (hr : Room k callerA)
    (F : ∀ base : Heap, K.In base → base.Ns mainGlobals mg → FnG P w K mg base k fa fd [x] (spLawG K)) (hbind : ∀ (s : Shared) (u : Value), BindsTo s fd ⟨[u], []⟩ [(x, u)])
    (hS : SqL K H a (ns.map V.int)) (hok : HOk P w H s.heap) (hA : ∀ b, H b ≠ none → b = a ∧ K.lookup a = none ∧ ∃ o xs, H b = some (.frz o (.lst xs))) :
    codeAny (model P w) callerA (.call (.ref fa) ⟨[.ref a], []⟩) (fun r s' => r = .ok (.ret (.bool true)) ∧ OldK s.heap s'.heap ∧ s'.os = s.os ∧ AllBare s'.gens) s := by
  have off : ∀ {b : Addr}, b ≠ a → H b = none := fun {b} hb => Classical.byContradiction fun z => hb (hA b z).1
  have seen : ∀ {b : Addr} {o : Obj}, b ≠ a → s.heap.get? b = some o → (hidT s.heap H).get? b = some o := fun hb e => hidT_get e (off hb)
  have notA : ∀ {b : Addr} {o : Obj} {es : Array DictEntry} {ep : Nat}, s.heap.get? b = some o → o.data = .dict es ep → b ≠ a := fun {b o es ep} e d hb => by
    rw [hb, ha] at e
    cases e
    cases (show Data.seq vs.toArray _ = Data.dict es ep from d)
  have names : ∀ {b : Addr} {m : Str → Option Value}, s.heap.Ns b m → (hidT s.heap H).Ns b m := fun ⟨o, es, ep, e, d, r⟩ => ⟨o, es, ep, seen (notA e d) e, d, r⟩
  have kin : K.In (hidT s.heap H) := fun b o e => by
    cases q : H b with
    | none => exact hidT_get (KX b o e) q
    | some u =>
      obtain ⟨rfl, kn, _⟩ := hA b (by rw [q]; exact Option.some_ne_none u)
      rw [kn] at e
      cases e
  have hM : Mod K mg (hidT s.heap H) := ⟨kin, names hns, ⟨mb, names hb, hbb⟩, hlim.elim fun mc h => ⟨mc, names h.1, h.2⟩⟩
  have e0 : Env0 P w K mg (hidT s.heap H) callerA [] s H := by
    refine ⟨rfl, hM, fun b o e => of_hidT e, Nat.le_of_eq (hidT_size _ _), trivial, fun b hb => ?_, hok, .of_eq hg⟩
    cases (show b ∈ ([] : List Addr) from hb)
  refine codeAny_mono ((F _ kin (names hns)).run callerA [] s H ⟨[.ref a], []⟩ [.ref a] [.ref a] (fun v _ => v = .bl true) hr rfl e0 (hbind s (.ref a)) (.cons rfl .nil) ⟨a, ns, rfl, hS, hl, fun _ => rfl⟩) fun r s' h => ?_
  match r, h with
  | .ok (.ret u), h =>
    obtain ⟨v, H', os, bare, un, hok', r', q⟩ := h
    cases q
    cases (show u = Value.bool true from r')
    refine ⟨rfl, OldK.of_keep fun b o e => ?_, os, bare⟩
    cases q : H b with
    | none => exact un.keep b o e q (fun z => by cases (show b ∈ ([] : List Addr) from z)) (fun z => by cases z)
    | some u =>
      obtain ⟨_, _, ob, xs, z⟩ := hA b (by rw [q]; exact Option.some_ne_none u)
      have g1 := (hok b _ z).1
      have g2 := (hok' b _ (un.frzs b ob _ z)).1
      rw [← Option.some.inj (g1.symm.trans e)]
      exact g2
  | .ok .next, h => exact False.elim h
  | .ok .brk, h => exact False.elim h
  | .ok .cont, h => exact False.elim h
  | .error e, h => exact False.elim h
theorem lawG_call {P : Program} {w : World} {K : PySem.W.Frag} {mg mb : Str → Option Value} {k : Nat} {fa a : Addr} {fd : FuncData} {x : Str} {s : Shared} {vs : List Value} {ns : List Int}
    (KX : K.In s.heap) (hns : s.heap.Ns mainGlobals mg) (hb : s.heap.Ns builtinsNs mb) (hbb : ∀ x : Str, x ≠ "__name__" → mb x = bootBuiltins x) (hlim : s.heap.NoLimit) (hg : s.gens = #[])
    (ha : s.heap.get? a = some { cls := .type "list", data := .seq vs.toArray }) (hi : IntsAre vs ns) (hl : ns.length ≤ 63) (hr : Room k callerA)
    (F : ∀ base : Heap, K.In base → base.Ns mainGlobals mg → FnG P w K mg base k fa fd [x] (spLawG K)) (hbind : ∀ (s : Shared) (u : Value), BindsTo s fd ⟨[u], []⟩ [(x, u)]) :
    codeAny (model P w) callerA (.call (.ref fa) ⟨[.ref a], []⟩) (fun r s' => r = .ok (.ret (.bool true)) ∧ OldK s.heap s'.heap ∧ s'.os = s.os ∧ AllBare s'.gens) s := by
  have rv := vals_ints hi
  have l63 : (63 : Nat) ≤ sizeLine := by decide
  have hlv := hi.length
  cases hk : K.lookup a with
  | some o =>
    have e := KX a o hk
    rw [ha] at e
    cases e
    refine lawG_core (ns := ns) (fun _ => none) KX hns hb hbb hlim hg ha hl hr F hbind (.inr ⟨_, vs.toArray, _, hk, rfl, rfl, rfl, ?_, by simpa using rv⟩) (fun b u z => by cases z) (fun b z => absurd rfl z)
    rw [List.size_toArray, hlv]
    exact Nat.le_trans hl l63
  | none =>
    refine lawG_core (ns := ns) (onlyH a (.frz { cls := .type "list", data := .seq vs.toArray } (.lst (ns.map V.int)))) KX hns hb hbb hlim hg ha hl hr F hbind (.inl (.inr ⟨_, if_pos rfl⟩)) (fun b u z => ?_) (fun b z => ?_)
    · by_cases e : b = a
      · subst e
        cases (if_pos rfl).symm.trans z
        exact ⟨ha, Nat.le_trans (Nat.le_of_eq (List.length_map ..)) (Nat.le_trans hl l63), vs, _, rv, ha⟩
      · cases (if_neg e).symm.trans z
    · by_cases e : b = a
      · exact ⟨e, hk, _, _, if_pos e⟩
      · exact absurd (if_neg e) z
/-- the law's walk, from the promise of its def -/
theorem walk_ofG {l : PySem.W.OpenLaw} {k : Nat} {q : Program} {loose : List Str} {XP : (Str → Option Value) → Heap → Prop} {YP : World → Heap → Prop} {d : DefRec} {K : Params → PySem.W.Frag} {x : Str}
    (hn : l.most = some 63) (hdf : d.params.defaults = []) (hr : Room k callerA) (hY : ∀ (w : World) (h : Heap), YP w h → (K w.params).In h)
    (F : ∀ (w : World) (mg : Str → Option Value) (fa : Addr) (h : Heap), (K w.params).In h → h.Ns mainGlobals mg → mg d.name = some (.ref fa) →
      ∃ fd : FuncData, (∀ (s : Shared) (u : Value), BindsTo s fd ⟨[u], []⟩ [(x, u)]) ∧ ∀ base : Heap, (K w.params).In base → base.Ns mainGlobals mg → FnG l.prog w (K w.params) mg base k fa fd [x] (spLawG (K w.params))) :
    PySem.W.WalkO q loose XP YP l.row.toRowW d [] (fun f vs => PySem.call f vs) := by
  refine Att.attach_call hn hdf fun w s₀ s mg mb fa o pm cd doc a vs ns G Y _ _ _ hmg hobj hints hlen hg => ?_
  obtain ⟨fd, hb, hF⟩ := F w mg fa _ (hY w _ Y) G.T.g hmg
  exact lawG_call (hY w _ Y) G.T.g G.T.b G.T.builtins G.T.nolimit hg hobj hints hlen hr hF hb
end W2

set_option Elab.async false
set_option linter.all false
set_option maxRecDepth 100000
/-! W2K: what the top has written, def by def. -/
namespace W2
open PySem PySem.Spec PyProof.Rows L2

/-- a def as it lies in the written part -/
structure FnF (K : PySem.W.Frag) (mg : Str → Option Value) (x : Str) (st : Stmt) (ps : List Str) where
  a : Addr
  d : FuncData
  F : Fun K x x st a d
  m : mg x = some (.ref a)
  b : Binds K d ps []
  bt : ∀ (s : Shared) (us : List Value), us.length = ps.length → BindsTo s d ⟨us, []⟩ (ps.zip us)
def fnF_mk {K : PySem.W.Frag} {h : Heap} {mg : Str → Option Value} (X : K.In h) (G : h.Ns mainGlobals mg) {x : Str} {st : Stmt} {ps : List Str} {f : Addr} {oc kV dc pm cd ct : Value} {od an : Option Addr} {osl : Array (Option Value)}
    (hb : ∀ (kV doc pm : Value) (an : Option Addr) (cdv ct : Value) (us : List Value), us.length = ps.length → bindArgs (PySem.W.fnOf x x (defArgs st) (defBody st) (defScope st) .none kV doc pm an cdv ct) ⟨us, []⟩ = pure (ps.zip us))
    (a1 : PySem.W.nsIn K mainGlobals x = some (some (.ref f))) (l1 : K.lookup f = some ⟨oc, od, .func (PySem.W.fnOf x x (defArgs st) (defBody st) (defScope st) .none kV dc pm an cd ct), osl⟩) (c1 : PySem.W.codeIn K cd x = true) (k1 : PySem.W.keepIn K (.ref f) = true) : FnF K mg x st ps :=
  { a := f, d := _, F := fun_mk l1 c1 k1, m := PySem.W.mg_of X G a1, b := (fun_mk l1 c1 k1).binds hb, bt := fun s us hl => .of_eq (hb _ _ _ _ _ _ us hl) }
theorem fnF_one {x : Str} {st : Stmt} {p : Str} (h : ∀ (kV doc pm : Value) (an : Option Addr) (cdv ct : Value) (u : Value), bindArgs (PySem.W.fnOf x x (defArgs st) (defBody st) (defScope st) .none kV doc pm an cdv ct) ⟨[u], []⟩ = pure [(p, u)]) :
    ∀ (kV doc pm : Value) (an : Option Addr) (cdv ct : Value) (us : List Value), us.length = [p].length → bindArgs (PySem.W.fnOf x x (defArgs st) (defBody st) (defScope st) .none kV doc pm an cdv ct) ⟨us, []⟩ = pure ([p].zip us) :=
  fun kV doc pm an cdv ct us hl => match us, hl with | [u], _ => h kV doc pm an cdv ct u
/-- the four defs of the source -/
theorem len1 {K : PySem.W.Frag} {vs : List V} {H : Hp} {Q : VK} {E : XK} (h : spSource K vs H Q E) : vs.length = 1 := by
  obtain ⟨a, ns, rfl, _⟩ := h
  rfl
theorem lenS {K : PySem.W.Frag} {n : Nat} {wf : WF} {vs : List V} {H : Hp} {Q : VK} {E : XK} (h : spS K n wf vs H Q E) : vs.length = n + 1 := by
  obtain ⟨a, b, vs', F, ds, P, rfl, _, hd, hl, _⟩ := h
  rw [List.length_cons, hd.length, hl]
section
variable {P : Program} {w : World} {K : PySem.W.Frag} {mg : Str → Option Value} {base : Heap} {k : Nat} {f : Addr} {x qual : Str} {st : Stmt} {fd : FuncData}
theorem fn_source (F : Fun K x qual st f fd) (S : FnScope ["script", "mixed", "cell"] ["script"] (defScope st))
    (hb : ∀ (cdv : Value) (A : Around) (outer : List Env) (s : Shared) (H : Hp), PSs (cxOf CX0 P w K mg base ["script", "mixed", "cell"] qual (defScope st) f cdv A outer s H E0).nox (defBody st) (tSource K)) : FnG P w K mg base (k + 1) f fd ["script"] (spSource K) :=
  fnG_of F S (fun vs H Q E h => len1 h) fun cdv A outer s H vs Q hr hG h => ⟨_, hb cdv A outer s H, sem_source h⟩
theorem fn_pick (F : Fun K x qual st f fd) (S : FnScope ["source", "many", "left", "mixed"] ["source", "many"] (defScope st))
    (hb : ∀ (cdv : Value) (A : Around) (outer : List Env) (s : Shared) (H : Hp), Room k (A.deeper (envOfC qual (defScope st) s.heap.objs.size f cdv)) → PSs (cxOf CX0 P w K mg base ["source", "many", "left", "mixed"] qual (defScope st) f cdv A outer s H E0).nox (defBody st) (tPick K)) : FnG P w K mg base (k + 1) f fd ["source", "many"] (spS K 1 wfPick) :=
  fnG_of F S (fun vs H Q E h => lenS h) fun cdv A outer s H vs Q hr hG h => ⟨_, hb cdv A outer s H hr, sem_pick h⟩
theorem fn_mixed (F : Fun K x qual st f fd) (S : FnScope ["source", "things", "rest", "lap"] ["source", "things"] (defScope st))
    (hb : ∀ (cdv : Value) (A : Around) (outer : List Env) (s : Shared) (H : Hp), Room k (A.deeper (envOfC qual (defScope st) s.heap.objs.size f cdv)) → (A.deeper (envOfC qual (defScope st) s.heap.objs.size f cdv)).guards = some [] → PSs (cxOf CX0 P w K mg base ["source", "things", "rest", "lap"] qual (defScope st) f cdv A outer s H E0).nox (defBody st) (tMixed K)) : FnG P w K mg base (k + 1) f fd ["source", "things"] (spS K 1 wfMixed) :=
  fnG_of F S (fun vs H Q E h => lenS h) fun cdv A outer s H vs Q hr hG h => ⟨_, hb cdv A outer s H hr hG, sem_mixed h⟩
end
/-- one of some: what its body does -/
theorem of_law {ds : List D} {Q : D → Prop} (hl : ds.length = 1) (h : wfOf ds Q) : wbOf { nx := fun _ => Q .none, rt := Q } (startE ["source", "some"] (.src :: ds.map .fz)) := by
  obtain ⟨d, rfl⟩ : ∃ d, ds = [d] := by
    match ds, hl with
    | [d], _ => exact ⟨d, rfl⟩
  have go : ∀ (xs : List D) (P : D → Prop), xs ≠ [] → xs.length < 1073741824 → (∀ x ∈ xs, P x) → (xs.length : Int) < 1073741824 ∧ ∀ r : Int, 0 ≤ r → r < max 1 (xs.length : Int) → ∃ x, L2.atI xs r = some x ∧ P x := fun xs P ne lt h => by
    refine ⟨by omega, fun r h0 h1 => ?_⟩
    have pos : 0 < xs.length := by cases xs with | nil => exact absurd rfl ne | cons _ _ => exact Nat.succ_pos _
    have hr : r.toNat < xs.length := by omega
    refine ⟨xs[r.toNat], ?_, h _ (List.getElem_mem _)⟩
    unfold L2.atI ixN
    rw [if_pos h0, if_pos (by omega)]
    exact List.getElem?_eq_getElem hr
  cases d <;> first | exact h.elim | skip
  · rename_i xs
    obtain ⟨g1, g2⟩ := go xs Q h.1 h.2.1 h.2.2
    exact ⟨rfl, g1, fun r h0 h1 => g2 r h0 h1⟩
  · rename_i xs
    obtain ⟨g1, g2⟩ := go xs Q h.1 h.2.1 h.2.2
    exact ⟨rfl, g1, fun r h0 h1 => g2 r h0 h1⟩
end W2

set_option Elab.async false
set_option linter.all false
set_option maxRecDepth 100000
/-! W2X: rules whose reading names the written part K: K is given apart. Printed by mkx.py. -/
namespace W2
open PySem PySem.Spec PyProof.Rows L2
def wFnOw (n : Nat) (wf : WF) (wa : WA) : WE := fun η Q => ownDicts η = true ∧ wFnB n wf wa η Q
section
variable {X : Cx} (K : PySem.W.Frag) (hK : X.K = K)
include hK

theorem op_addK  : OpR X (binaryOp .Add) (rAddA K) := by
  subst hK
  exact op_addA
theorem op_eqK (hu : X.A.units + 64 < cLine) : OpR X (compareOp .Eq) (rEqA K) := by
  subst hK
  exact op_eqA hu
theorem op_neK (hu : X.A.units + 64 < cLine) : OpR X (compareOp .NotEq) (rNeA K) := by
  subst hK
  exact op_neA hu
theorem op_inK (hu : X.A.units + 65 < cLine) : OpR X (compareOp .In) (rInA K) := by
  subst hK
  exact op_inA hu
theorem op_notInK (hu : X.A.units + 65 < cLine) : OpR X (compareOp .NotIn) (rNotInA K) := by
  subst hK
  exact op_notInA hu
theorem cr_lenK  : CallR X (.builtin "len") (rLenA K) := by
  subst hK
  exact cr_len
abbrev rLst1 (K : PySem.W.Frag) : List V → Hp → VK → Prop := fun xs H Q => ∃ p ys, xs = [.ref p] ∧ (SqL K H p ys ∨ SqT K H p ys) ∧ ∀ l, H l = none → Q (.ref l) (upd H l (.lst ys))
theorem cr_tupleK  : CallR X (.type "tuple") (rTupN K) := by
  subst hK
  exact call_tupN
theorem cr_listK  : CallR X (.type "list") (rLst1 K) := by
  subst hK
  exact call_list_of
theorem cr_sortedK (hc : X.calm = true) (hu : X.A.units + 70 < cLine) : CallR X (.builtin "sorted") (rSortA K) := by
  subst hK
  exact cr_sortedA hc hu
theorem cr_reprK (hu : X.A.units + 70 < cLine) (hG : X.A.guards = some []) : CallR X (.builtin "repr") (rRepr K) := by
  subst hK
  exact cr_repr hu hG
theorem cr_sumK (hc : X.calm = true) : CallR X (.builtin "sum") (rSum K) := by
  subst hK
  exact cr_sum hc
theorem cr_maxK (hc : X.calm = true) : CallR X (.builtin "max") (rMax K) := by
  subst hK
  exact cr_max hc
theorem cr_minK (hc : X.calm = true) : CallR X (.builtin "min") (rMin K) := by
  subst hK
  exact cr_min hc
theorem cr_allK (hc : X.calm = true) : CallR X (.builtin "all") (rAll K) := by
  subst hK
  exact cr_all hc
theorem cr_anyK (hc : X.calm = true) : CallR X (.builtin "any") (rAny K) := by
  subst hK
  exact cr_any hc
theorem cr_dictK (hc : X.calm = true) : CallR X (.type "dict") (rDictA K) := by
  subst hK
  exact cr_dict hc
theorem dg_tupK {es : List Expr} {k : Nat} {t : TGs} {n : Nat} {pos : Pos} {ws : WGs} {L : List Nat} (hc : X.calm = true) (h : DGs X es t ws L) (hn : (assignEach es X.env).length = n := by rfl) (hst : (assignEach es X.env).findIdx? (·.1) = none := by rfl) : DG X (.Tuple es k pos) (fun v σ H Q => gTup K n t v σ H Q ∨ gUnl K n t v σ H Q) (wGt n ws) L := by
  subst hK
  exact dg_tup hc h hn hst
theorem di_itemsK {tg e : Expr} {te : TE} {we : WE} (he : DE X e te we) : DI X tg e (iAny K te) (wItems we) := by
  subst hK
  exact di_items he
theorem de_ixK {a b : Expr} {ta tb : TE} {wa wb : WE} {pos : Pos} (hu : X.A.units + 1 < cLine) (hs : PlainIx b) (ha : DO X a ta wa) (hb : DE X b tb wb) : DE X (.Subscript a b pos) (tOp (fun x y H Q => rIx K x y H Q ∨ rIxDct x y H Q) ta tb) (w2 gIxA wa wb) := by
  subst hK
  exact de_ixA hu hs ha hb
theorem de_sliceK {e : Expr} {lo hi : Option Expr} {te : TE} {we : WE} {tl th : TO} {wl wh : WO} {pos p2 : Pos} (he : DO X e te we) (hl : DPO X lo tl wl) (hh : DPO X hi th wh) : DE X (.Subscript e (.Slice lo hi none p2) pos) (tSl (rSlB K) te tl th) (wSl we wl wh) := by
  subst hK
  exact de_slice he hl hh
theorem dl_sliceK {e : Expr} {lo hi : Option Expr} {te : TE} {we : WE} {tl th : TO} {wl wh : WO} {pos p2 : Pos} (he : DO X e te we) (hl : DPO X lo tl wl) (hh : DPO X hi th wh) : DL X (.Subscript e (.Slice lo hi none p2) pos) (tSl (rSlL K) te tl th) (wSlL we wl wh) := by
  subst hK
  exact dl_slice he hl hh
theorem de_revTK {e : Expr} {te : TE} {we : WE} {k : Nat} {p1 p2 p3 pos : Pos} (he : DE X e te we) : DE X (.Subscript e (.Slice none none (some (.UnaryOp .USub (.Constant (.int 1) k p1) p2)) p3) pos) (tRevT K te) (wRevT we) := by
  subst hK
  exact de_revT he
theorem dl_revK {e : Expr} {te : TE} {we : WE} {k : Nat} {p1 p2 p3 pos : Pos} (he : DO X e te we) : DL X (.Subscript e (.Slice none none (some (.UnaryOp .USub (.Constant (.int 1) k p1) p2)) p3) pos) (tRevL K te) (wRevL we) := by
  subst hK
  exact dl_rev (p4 := ⟨0, 0, 0, 0⟩) he
theorem di_enumK {e : Expr} {te : TE} {we : WE} {elts : List Expr} {kk : Nat} {tpos p pos : Pos} (hg : Gl X "enumerate") (hm : X.mg "enumerate" = none) (he : DE X e te we) (hs : starEach [e] X.env = [(false, eval e X.env)] := by rfl) : DI X (.Tuple elts kk tpos) (.Call (.Name "enumerate" p) [e] [] pos) (iEnumA K (tCons te tNil)) (wEnum we) := by
  subst hK
  exact di_enum hg hm he hs
theorem de_fnK {k n : Nat} {f : Addr} {fd : FuncData} {ps : List Str} {wf : WF} {x : Str} {p pos : Pos} {e : Expr} {es : List Expr} {ta : TA} {wa : WA} (G : FnG X.prog X.w K X.mg X.base k f fd ps (spW K n wf)) (hr : Room k X.A) (hG : X.A.guards = some []) (hm : X.mg x = some (.ref f)) (hk : PySem.W.keepIn K (.ref f) = true) (hb : Binds K fd ps []) (hg : Gl X x) (ha : DB X (e :: es) ta wa) (hdb : (x == ("__debug__" : Str)) = false := by decide) (he : starEach (e :: es) X.env = (false, eval e X.env) :: starEach es X.env := by rfl) (hpl : (backTo pos (starEach es X.env)).any (·.1) = false := by rfl) : DE X (.Call (.Name x p) (e :: es) [] pos) (tCall (spW K n wf) [] E0 ta) (wFn n wf wa) := by
  subst hK
  exact de_fn G hr hG hm hk hb hg ha hdb he hpl
theorem de_fnSK (i : Nat) {k n : Nat} {f : Addr} {fd : FuncData} {ps : List Str} {wf : WF} {x : Str} {p pos : Pos} {e : Expr} {es : List Expr} {ta : TA} {wa : WA} (G : FnG X.prog X.w K X.mg X.base k f fd ps (spS K n wf)) (hr : Room k X.A) (hG : X.A.guards = some []) (hm : X.mg x = some (.ref f)) (hk : PySem.W.keepIn K (.ref f) = true) (hb : Binds K fd ps []) (hg : Gl X x) (hn : PE X e (tVar i)) (ha : DB X es ta wa) (hdb : (x == ("__debug__" : Str)) = false := by decide) (he : starEach (e :: es) X.env = (false, eval e X.env) :: starEach es X.env := by rfl) (hpl : (backTo pos (starEach es X.env)).any (·.1) = false := by rfl) : DE X (.Call (.Name x p) (e :: es) [] pos) (tCall (spS K n wf) [] E0 (tCons (tVar i) ta)) (wFnS i n wf wa) := by
  subst hK
  exact de_fnS i G hr hG hm hk hb hg hn ha hdb he hpl
theorem dt_truthK {a : Expr} {ta : TE} {wa : WE} (ha : DO X a ta wa) (he : ∀ whole, isTrue a X.env whole = (do let v ← whole; standAt a.pos; holding [v] (truthy v)) := by intro _; rfl) : DTs X a (fun σ H Q => ta σ H fun x H' => ∃ k, TruV K x H' k ∧ Q k H') (wTr wa) := by
  subst hK
  exact dt_truth ha he
theorem de_fnBK {k n : Nat} {f : Addr} {fd : FuncData} {ps : List Str} {wf : WF} {x : Str} {p pos : Pos} {e : Expr} {es : List Expr} {ta : TA} {wa : WA} (G : FnG X.prog X.w K X.mg X.base k f fd ps (spW K n wf)) (hr : Room k X.A) (hG : X.A.guards = some []) (hm : X.mg x = some (.ref f)) (hk : PySem.W.keepIn K (.ref f) = true) (hb : Binds K fd ps []) (hg : Gl X x) (ha : DA X (e :: es) ta wa) (hdb : (x == ("__debug__" : Str)) = false := by decide) (he : starEach (e :: es) X.env = (false, eval e X.env) :: starEach es X.env := by rfl) (hpl : (backTo pos (starEach es X.env)).any (·.1) = false := by rfl) : DE X (.Call (.Name x p) (e :: es) [] pos) (tCall (spW K n wf) [] E0 ta) (wFnOw n wf wa) := by
  subst hK
  exact de_fnB G hr hG hm hk hb hg ha hdb he hpl
end
end W2

set_option Elab.async false
set_option linter.all false
set_option maxRecDepth 100000
/-! W2J: isinstance(x, T), T a built-in type by its name; is, is not. -/
namespace W2
open PySem PySem.Spec PyProof.Rows L2

def tyN : D → String
  | .none => "NoneType"
  | .bool _ => "bool"
  | .int _ => "int"
  | .str _ => "str"
  | .list _ => "list"
  | .tuple _ => "tuple"
  | .dict _ => "dict"
def isiT (d : D) (T : String) : Bool := match d with
  | .bool _ => T == "bool" || T == "int"
  | d => T == tyN d
theorem kit_tuple (K : PySem.W.Frag) (d : D) : PySem.W.kitOne K (.type (tyN d)) (.type "tuple") = some (isiT d "tuple") := by cases d <;> kernel_rfl
theorem kit_int (K : PySem.W.Frag) (d : D) : PySem.W.kitOne K (.type (tyN d)) (.type "int") = some (isiT d "int") := by cases d <;> kernel_rfl
theorem kit_bool (K : PySem.W.Frag) (d : D) : PySem.W.kitOne K (.type (tyN d)) (.type "bool") = some (isiT d "bool") := by cases d <;> kernel_rfl
theorem kit_str (K : PySem.W.Frag) (d : D) : PySem.W.kitOne K (.type (tyN d)) (.type "str") = some (isiT d "str") := by cases d <;> kernel_rfl
theorem kit_list (K : PySem.W.Frag) (d : D) : PySem.W.kitOne K (.type (tyN d)) (.type "list") = some (isiT d "list") := by cases d <;> kernel_rfl
theorem kit_dict (K : PySem.W.Frag) (d : D) : PySem.W.kitOne K (.type (tyN d)) (.type "dict") = some (isiT d "dict") := by cases d <;> kernel_rfl
/-- a value's type, a locked dict of tuple keys too -/
def TyZ (K : PySem.W.Frag) (H : Hp) (x : V) (t : Value) : Prop := TyX K H x t ∨ ∃ a o kvs, x = .ref a ∧ t = .type "dict" ∧ RdT H a o ∧ TD H a o kvs
theorem Nw.ty {K : PySem.W.Frag} {sx : Sx} {F H : Hp} {v : V} {d : D} (b : Base sx F H) (h : Nw K F H v d) : TyZ K H v (.type (tyN d)) := by
  cases d with
  | none => cases h.none; exact .inl (.base .non)
  | bool x => cases h.bool; exact .inl (.base (.bl x))
  | int x => cases h.int; exact .inl (.base (.int x))
  | str x => cases h.str; exact .inl (.base (.str x))
  | list ds => obtain ⟨a, xs, rfl, h1, _⟩ := h.list b.le; exact .inl (.base (.lst h1))
  | tuple ds => obtain ⟨a, xs, rfl, ⟨_, _, h1⟩, _⟩ := h.tuple; exact .inl (.fTuple (b.le _ _ h1))
  | dict es =>
    obtain ⟨a, rfl, ⟨kvs, rd, _⟩ | ⟨o1, kvs, rd, td, _⟩⟩ := h.dict b.le
    · rcases rd with rd | ⟨o, rd⟩
      · exact .inl (.base (.dK rd))
      · exact .inl (.fDict rd)
    · exact .inr ⟨a, o1, kvs, rfl, rfl, rd, td.mono b.le⟩
def rIsiZ (K : PySem.W.Frag) (T : String) : List V → Hp → VK → Prop := fun xs H Q => ∃ (x : V) (t : Value) (b : Bool), xs = [x, .ty T] ∧ TyZ K H x t ∧ PySem.W.kitOne K t (.type T) = some b ∧ Q (.bl b) H
theorem cr_isi {X : Cx} (T : String) : CallR X (.builtin "isinstance") (rIsiZ X.K T) := by
  intro pins s σ H xs us Q I r h
  obtain ⟨x, t, b, rfl, ty, e, q⟩ := h
  rcases ty with ty | ⟨a, o, kvs, rfl, rfl, rd, td⟩
  · exact call_isi pins s σ H _ us Q I r ⟨x, .ty T, t, .type T, b, rfl, .ty T, ty, e, q⟩
  · obtain ⟨u1, u2, rfl, r1, r2⟩ := vals2 r
    cases (show u1 = Value.ref a from r1)
    cases (show u2 = Value.type T from r2)
    obtain ⟨_, _, _, _, ob, es, ep, ho, hx, _⟩ := td.of (P := X.prog) (w := X.w) rd I.hok
    exact PySem.W.kia_one PySem.W.kitx_dict I.kIn ⟨ob, ho, hx.1⟩ e (fun z => nomatch z) fun tk => ⟨.bl b, H, I.tok tk, rfl, q⟩
theorem pe_ty {X : Cx} {T : String} {x : Str} {pos : Pos} (hg : Gl X x) (hm : X.mg x = none) (hv : bootBuiltins x = some (.type T)) (hn : x ≠ "__name__" := by decide) (hd : (x == ("__debug__" : Str)) = false := by decide) : PE X (.Name x pos) (tC (.ty T)) :=
  ⟨fun pins s σ H Q I h => ld_blt I hg hm hv ⟨.ty T, H, I, rfl, h⟩ hn hd⟩
def wIsi (T : String) (we : WE) : WE := fun η Q => we η fun d => Q (.bool (isiT d T))
section
variable {X : Cx} {e : Expr} {te : TE} {we : WE} {p p2 pos : Pos} {T : String} {x : Str}
theorem de_isi (K : PySem.W.Frag) (hK : X.K = K) (hk : ∀ (K : PySem.W.Frag) (d : D), PySem.W.kitOne K (.type (tyN d)) (.type T) = some (isiT d T)) (hv : bootBuiltins x = some (.type T)) (hg : Gl X "isinstance") (hm : X.mg "isinstance" = none) (hgx : Gl X x) (hmx : X.mg x = none) (he : DO X e te we)
    (hb : bootBuiltins "isinstance" = some (.builtin "isinstance")) (hn : x ≠ "__name__" := by decide) (hd : (x == ("__debug__" : Str)) = false := by decide)
    (hs : starEach [e, .Name x p2] X.env = (false, eval e X.env) :: starEach [.Name x p2] X.env := by rfl) (hs2 : starEach [.Name x p2] X.env = (false, eval (.Name x p2) X.env) :: starEach [] X.env := by rfl) (hpl : (backTo pos (starEach [.Name x p2] X.env)).any (·.1) = false := by rfl) :
    DE X (.Call (.Name "isinstance" p) [e, .Name x p2] [] pos) (tCB (rIsiZ K T) (tCons te (tCons (tC (.ty T)) tNil))) (wIsi T we) := by
  subst hK
  refine ⟨pe_callB (cr_isi T) hg hm hb (pa_cons he.pe (pa_cons (pe_ty hgx hmx hv hn hd) pa_nil hs2) hs) (by decide) (by decide) hs hpl, fun {sx H0 F0 F σ H η Q R} r hw k => he.sem r hw fun d v F1 H1 q e o => ?_⟩
  have r1 := r.ext e
  exact ⟨v, _, _, rfl, (o.nw r1).ty r1.base, hk _ d, (k.ext e).now r1.base q (.bl _)⟩
end
theorem bt_isinstance : bootBuiltins "isinstance" = some (.builtin "isinstance") := by decide +kernel
/-! ### is, is not: None, a truth value -/
def gIs (neg : Bool) : D → D → (D → Prop) → Prop
  | x, .none, Q => Q (.bool (match x with | .none => !neg | _ => neg))
  | .bool a, .bool b, Q => Q (.bool (if neg then !decide (a = b) else decide (a = b)))
  | _, _, _ => False
def rIsA (neg : Bool) : R2 := fun x y H Q => (y = .non ∧ Q (.bl (if neg then !decide (x = .non) else decide (x = .non))) H) ∨ ∃ a b, x = .bl a ∧ y = .bl b ∧ Q (.bl (if neg then !decide (a = b) else decide (a = b))) H
theorem op_isA {X : Cx} : OpR X (compareOp .Is) (rIsA false) := OpR.or op_isN op_isBl
theorem op_notA {X : Cx} : OpR X (compareOp .IsNot) (rIsA true) := OpR.or op_notN op_notBl
theorem rs_is {K : PySem.W.Frag} {neg : Bool} : RSem K (rIsA neg) (gIs neg) := fun {sx F H x y dx dy Q R} b hx hy hg k => by
  cases dy with
  | none =>
    cases hy.none
    refine .inl ⟨rfl, ?_⟩
    by_cases e : dx = .none
    · subst e
      cases hx.none
      have hg' : Q (.bool (!neg)) := hg
      have := k.now b (d := .bool (!neg)) (v := .bl (!neg)) hg' (.bl _)
      cases neg <;> exact this
    · have hn := hx.notNon e
      have hg' : Q (.bool neg) := by cases dx <;> first | exact absurd rfl e | exact hg
      have := k.now b (d := .bool neg) (v := .bl neg) hg' (.bl _)
      cases neg
      · rw [if_neg Bool.false_ne_true, decide_eq_false hn]; exact this
      · rw [if_pos rfl, decide_eq_false hn]; exact this
  | bool c =>
    cases dx <;> first | exact hg.elim | skip
    cases hx.bool; cases hy.bool
    exact .inr ⟨_, _, rfl, rfl, k.now b hg (.bl _)⟩
  | _ => cases dx <;> exact hg.elim
end W2

set_option Elab.async false
set_option linter.all false
set_option maxRecDepth 100000
/-! W2O: starred places, while, x op= e, dict displays, a new dict frozen at once. -/
namespace W2
open PySem PySem.Spec PyProof.Rows L2

/-! ### (*x, y) -/
def wStar (we : WE) (w : WA) : WA := fun η Q => we η fun d => match d with
  | .list ds => w η fun es => Q (ds ++ es)
  | .tuple ds => w η fun es => Q (ds ++ es)
  | _ => False
section
variable {X : Cx} {e : Expr} {es : List Expr} {te : TE} {t : TA} {we : WE} {w : WA} {p : Pos}
theorem db_star (K : PySem.W.Frag) (hK : X.K = K) (h : DO X e te we) (hr : DB X es t w) (hs : starEach (.Starred e p :: es) X.env = (true, eval e X.env) :: starEach es X.env := by rfl) : DB X (.Starred e p :: es) (StX.tStar K te t) (wStar we w) := by
  subst hK
  refine ⟨StX.pa_star h.pe hr.pa hs, fun {sx H0 F0 F σ H η Q R} r hw k => h.sem r hw fun d v F1 H1 q e1 o => ?_⟩
  have r1 := r.ext e1
  cases d <;> first | exact q.elim | skip
  · obtain ⟨a, xs, rfl, h1, h2⟩ := (o.nw r1).list r1.base.le
    exact ⟨a, xs, rfl, .inr (SqL.of h1), hr.sem r1 q fun ds vs F2 H2 q2 e2 hd => k _ _ F2 H2 q2 (e1.trans e2) ((h2.mono e2.sF).append hd)⟩
  · obtain ⟨a, xs, rfl, h1, h2⟩ := (o.nw r1).tupleH r1.base.le
    exact ⟨a, xs, rfl, .inl h1, hr.sem r1 q fun ds vs F2 H2 q2 e2 hd => k _ _ F2 H2 q2 (e1.trans e2) ((h2.mono e2.sF).append hd)⟩
end

/-! ### while -/
theorem sem_while {K : PySem.W.Frag} {tc : TT} {wc : WT} {tb : TS} {wb : WS} (hc : SemT K tc wc) (hb : SemS K tb wb) : SemS K (tWhile tc tb) (wWhile wc wb) := fun {sx H0 F0 F σ H η D R} r hw k => by
  obtain ⟨I, ⟨m0, i0⟩, turn⟩ := hw
  refine ⟨fun m σ' H' => ∃ F' η', Same F F' ∧ Rep K sx H0 F0 F' σ' H' η' ∧ I m η', ⟨m0, F, η, Same.refl _, r, i0⟩, ?_⟩
  rintro m σ' H' ⟨F', η', sF, r', hi⟩
  refine hc r' (turn m η' hi) fun b F1 H1 q e => ?_
  cases b with
  | true =>
    rw [if_pos rfl] at q ⊢
    refine ⟨fun σ2 H2 => ∃ m', m' < m ∧ ∃ F2 η2, Same F F2 ∧ Rep K sx H0 F0 F2 σ2 H2 η2 ∧ I m' η2, fun σ2 H2 ⟨m', lt, F2, η2, a1, a2, a3⟩ => ⟨m', lt, F2, η2, a1, a2, a3⟩, ?_⟩
    have s1 := sF.trans e.sF
    exact hb (r'.ext e) q ⟨fun η4 σ4 F4 H4 q4 s4 r4 => ⟨q4.choose, q4.choose_spec.1, F4, η4, s1.trans s4, r4, q4.choose_spec.2⟩, fun η4 σ4 F4 H4 q4 s4 r4 => k.nx _ _ _ _ q4 (s1.trans s4) r4,
      fun η4 σ4 F4 H4 q4 s4 r4 => ⟨q4.choose, q4.choose_spec.1, F4, η4, s1.trans s4, r4, q4.choose_spec.2⟩, k.rt⟩
  | false =>
    rw [if_neg Bool.false_ne_true] at q ⊢
    exact k.nx _ _ _ _ q (sF.trans e.sF) (r'.ext e)
theorem ds_while {X : Cx} {c : Expr} {body : List Stmt} {pos : Pos} {tc : TT} {wc : WT} {tb : TS} {wb : WS} (hp : PassesOwn (model X.prog X.w) X.A X.env X.xe) (hc : DTs X c tc wc) (hb : DSs X body tb wb) : DS X (.While c body [] pos) (tWhile tc tb) (wWhile wc wb) :=
  ⟨ps_while hp hc.pt hb.pss, sem_while hc.sem hb.sem⟩

/-! ### name op= e, a frozen value -/
def wAug (i : Nat) (we : WE) (g : D → D → (D → Prop) → Prop) : WS := fun W η => match η[i]? with
  | some (.fz x) => we η fun y => g x y fun z => W.nx (η.set i (.fz z))
  | _ => False
theorem sem_aug {K : PySem.W.Frag} {i : Nat} {te : TE} {we : WE} {r : R2} {g : D → D → (D → Prop) → Prop} (hs : RSem K r g) (he : SemO K te we) : SemS K (tAug i te r) (wAug i we g) := fun {sx H0 F0 F σ H η D R} rp hw k => by
  unfold wAug at hw
  split at hw
  · rename_i x hi
    obtain ⟨sv, hv, v, rfl, hd⟩ := rp.val hi
    refine ⟨v, hv, he rp hw fun y u F1 H1 q e o => ?_⟩
    have r1 := rp.ext e
    refine hs r1.base (.inl (hd.mono e.sF)) (o.nw r1) q fun z w F2 H2 q2 e2 hz => ?_
    exact k.nx _ _ _ _ q2 (e.sF.trans e2.sF) ((r1.ext e2).setFz i hz)
  · exact hw.elim
section
variable {X : Cx} {x : Str} {e : Expr} {te : TE} {we : WE} {op : Operator} {pos' pos : Pos} {r : R2} {g : D → D → (D → Prop) → Prop}
theorem ds_aug (i : Nat) (hN : X.N.Nodup) (ho : OpR X (inplaceOp op) r) (hs : RSem X.K r g) (he : DO X e te we) (hi : X.N[i]? = some x := by rfl) (hx : Loc X.env.scope x := by first | exact Or.inl rfl | exact Or.inr rfl)
    (hf : X.fn x = true ∨ X.env.scope.names.lookup x = some .local := by first | exact .inl rfl | exact .inr rfl) : DS X (.AugAssign (.Name x pos') op e pos) (tAug i te r) (wAug i we g) :=
  ⟨ps_aug hN hi hx he.pe ho hf, sem_aug hs he.sem⟩
theorem iop_mulW : OpR X (inplaceOp .Mult) (rI CMulW fun i j => .int (i * j)) := opI fun _ _ _ _ _ _ _ hc q => imul_int q hc.ok
end

/-! ### a new dict frozen at once -/
def tLk (t : TE) : TE := fun σ H Q => t σ H fun x H1 => ∃ a u, x = .ref a ∧ H1 a = some u ∧ Mut (some u) ∧ ∀ o, Q x (upd H1 a (.frz o u))
theorem pe_lk {X : Cx} {e : Expr} {t : TE} (h : PE X e t) : PE X e (tLk t) := ⟨fun pins s σ H Q I hw => thn (h.run pins s σ H _ I hw) fun u s1 ⟨x, H1, I1, rx, a, v, ex, hv, mu, q⟩ => by
  obtain ⟨o, I2⟩ := I1.lock hv mu
  exact ⟨x, _, I2, rx, q o⟩⟩
theorem DD.fr {X : Cx} {e : Expr} {t : TE} {w : WE} (h : DD X e t w) : DE X e (tLk t) w :=
  ⟨pe_lk h.pe, fun {sx H0 F0 F σ H η Q R} r hw k => h.sem r hw fun es a F1 H1 q e ho hF hn => by
    have r1 := r.ext e
    have nx : ¬ inSx sx a := fun z => by obtain ⟨o, q⟩ := r.base.ok.there z; rw [hn] at q; cases q
    have go : ∀ (u : HO), H1 a = some u → (∀ o F2, Same F1 F2 → F2 a = some (.frz o u) → Dt X.K F2 (.ref a) (.dict es)) → ∀ o, R (.ref a) (upd H1 a (.frz o u)) := fun u hu hd o => by
      have s1 : Same F1 (upd F1 a (.frz o u)) := fun b v z => by rw [upd_ne (ne_of_none z hF)]; exact z
      refine k (.dict es) (.ref a) (upd F1 a (.frz o u)) _ q ⟨e.sF.trans s1, fun b v z n => ?_, fun b v z => ?_, fun b v z => ?_, ?_⟩ (hd o _ s1 upd_same)
      · rw [upd_ne (ne_of_none z hn)]; exact e.sH _ _ z n
      · by_cases c : b = a
        · subst c; rw [upd_same] at z ⊢; exact z
        · rw [upd_ne c] at z ⊢; exact e.le _ _ z
      · by_cases c : b = a
        · subst c; exact .inr (.inl hn)
        · rw [upd_ne c] at z; exact e.fr _ _ z
      · cases sx with
        | none => trivial
        | some p =>
          obtain ⟨a1, b1⟩ := p
          obtain ⟨n, cs, l, m, t, z1, z2, z⟩ := e.ok
          exact ⟨n, cs, l, m, t, by rw [upd_ne (fun z => nx (.inl z.symm))]; exact z1, by rw [upd_ne (fun z => nx (.inr z.symm))]; exact z2, z⟩
    rcases ho with ⟨kvs, h1, h2⟩ | ⟨o1, kvs, h1, ht, h2⟩
    · exact ⟨a, _, rfl, h1, trivial, go _ h1 fun o F2 s hF2 => .dK hF2 (h2.mono s)⟩
    · exact ⟨a, _, rfl, h1, trivial, go _ h1 fun o F2 s hF2 => .dT hF2 (ht.mono s) (h2.mono s)⟩⟩
/-! ### {k: v, ..}, keys ints and texts -/
def wPairs : List (WE × WE) → En → (List (D × D) → Prop) → Prop
  | [], _, Q => Q []
  | (wk, wv) :: r, η, Q => wk η fun k => wv η fun v => wPairs r η fun ps => Q ((k, v) :: ps)
structure DPs (X : Cx) (pos : Pos) (keys : List (Option Expr)) (values : List Expr) (trs : List (TE × TE)) (ws : List (WE × WE)) : Prop where
  pps : PPs X pos keys values trs
  sem : ∀ {sx : Sx} {H0 F0 F : Hp} {σ : L2.St} {H : Hp} {η : En} {Q : List (D × D) → Prop} {R : List (V × V) → Hp → Prop}, Rep X.K sx H0 F0 F σ H η → wPairs ws η Q →
    (∀ ds ps F' H', Q ds → ds.length = trs.length → Ext2 sx F H F' H' → Paired (fun (p : V × V) (d : D × D) => Dt X.K F' p.1 d.1 ∧ Dt X.K F' p.2 d.2) ps ds → R ps H') → tPairs trs σ H R
section
variable {X : Cx} {pos : Pos} {k v : Expr} {ks : List (Option Expr)} {vs : List Expr} {tk tv : TE} {wk wv : WE} {trs : List (TE × TE)} {ws : List (WE × WE)}
theorem dps_nil : DPs X pos [] [] [] [] := ⟨pps_nil, fun r hw kk => kk [] [] _ _ hw rfl (.refl r.base) .nil⟩
theorem dps_cons (hk : DE X k tk wk) (hv : DE X v tv wv) (hr : DPs X pos ks vs trs ws) : DPs X pos (some k :: ks) (v :: vs) ((tk, tv) :: trs) ((wk, wv) :: ws) :=
  ⟨pps_cons hk.pe hv.pe hr.pps, fun r hw kk => hk.sem r hw fun dk x F1 H1 q1 e1 h1 => hv.sem (r.ext e1) q1 fun dv y F2 H2 q2 e2 h2 => hr.sem ((r.ext e1).ext e2) q2 fun ds ps F3 H3 q3 l3 e3 h3 =>
    kk _ _ F3 H3 q3 (congrArg (· + 1) l3) ((e1.trans e2).trans e3) (.cons ⟨h1.mono (e2.sF.trans e3.sF), h2.mono e3.sF⟩ h3)⟩
end
def keysOf : List (D × D) → Option (List (Key × D))
  | [] => some []
  | (.int i, v) :: r => (keysOf r).map ((.inl i, v) :: ·)
  | (.str x, v) :: r => (keysOf r).map ((.inr x, v) :: ·)
  | _ => none
def wDisp (ws : List (WE × WE)) : WE := fun η Q => wPairs ws η fun ps => ∃ kvs, keysOf ps = some kvs ∧ Q (.dict (mergeD kvs))
theorem keys_dt {K : PySem.W.Frag} {F : Hp} : ∀ {ps : List (V × V)} {ds : List (D × D)} {kvs : List (Key × D)}, Paired (fun (p : V × V) (d : D × D) => Dt K F p.1 d.1 ∧ Dt K F p.2 d.2) ps ds → keysOf ds = some kvs →
    ∃ kvv : List (Key × V), ps = kvv.map (fun kv => (kV kv.1, kv.2)) ∧ Paired (fun (x : Key × V) (y : Key × D) => x.1 = y.1 ∧ Dt K F x.2 y.2) kvv kvs
  | _, _, _, .nil, e => by cases e; exact ⟨[], rfl, .nil⟩
  | p :: ps, (dk, dv) :: ds, kvs, .cons h t, e => by
    have go : ∀ (k : Key) (r : List (Key × D)), dk = kD k → keysOf ds = some r → kvs = (k, dv) :: r → ∃ kvv : List (Key × V), p :: ps = kvv.map (fun kv => (kV kv.1, kv.2)) ∧ Paired (fun (x : Key × V) (y : Key × D) => x.1 = y.1 ∧ Dt K F x.2 y.2) kvv kvs := fun k r e1 e2 e3 => by
      obtain ⟨kvv, h1, h2⟩ := keys_dt t e2
      subst e1 e3
      have ek := h.1.keyV
      obtain ⟨x, y⟩ := p
      have ek' : x = kV k := ek
      subst ek'
      exact ⟨(k, y) :: kvv, by rw [List.map_cons, h1], .cons ⟨rfl, h.2⟩ h2⟩
    unfold keysOf at e
    split at e
    · rename_i heq; cases heq
    · rename_i i v r heq
      cases heq
      cases q : keysOf ds with
      | none => rw [q] at e; cases e
      | some r => rw [q] at e; cases e; exact go (.inl i) r rfl q rfl
    · rename_i i v r heq
      cases heq
      cases q : keysOf ds with
      | none => rw [q] at e; cases e
      | some r => rw [q] at e; cases e; exact go (.inr i) r rfl q rfl
    · cases e
theorem dd_disp {X : Cx} {pos : Pos} {keys : List (Option Expr)} {values : List Expr} {trs : List (TE × TE)} {ws : List (WE × WE)} (h : DPs X pos keys values trs ws) (ht : trs.length ≤ 15 := by decide) (hall : keys.all (·.isSome) = true := by rfl) (hl : keys.length = values.length := by rfl) (h0 : keys ≠ [] := by exact fun h => nomatch h)
    (h15 : keys.length ≤ 15 := by decide) : DD X (.Dict keys values pos) (tDisp trs) (wDisp ws) :=
  ⟨pe_disp h.pps hall hl h0 h15, fun {sx H0 F0 F σ H η Q R} r hv k p hp => by
    have e0 := Ext2.newF (o := .dK []) r.base hp
    have nx : ¬ inSx sx p := fun z => by obtain ⟨o, q⟩ := r.base.ok.there z; rw [hp] at q; cases q
    have hF : F p = none := by
      cases z : F p with
      | none => rfl
      | some o => rw [r.base.le _ _ z] at hp; cases hp
    refine h.sem (r.ext e0) hv fun ds ps F1 H1 q hl e1 hps => ?_
    obtain ⟨kvs, ek, q'⟩ := q
    obtain ⟨kvv, rfl, h3⟩ := keys_dt hps ek
    have hb := e1.sH _ _ (upd_same (H := H) (a := p) (o := .dK [])) nx
    have hF1 : F1 p = none := by
      cases z : F1 p with
      | none => rfl
      | some u =>
        rcases e1.fr _ _ z with y | y | ⟨xs, rfl⟩
        · rw [hF] at y; cases y
        · rw [upd_same] at y; cases y
        · have y := e1.le _ _ z
          rw [hb] at y; cases y
    have l2 : kvv.length ≤ 15 := by
      have := Paired.length hps
      rw [List.length_map] at this
      omega
    refine ⟨hb, kvv, rfl, l2, ?_⟩
    have e2 := e0.trans e1
    refine k _ p F1 _ q' ⟨e2.sF, fun b o z n => ?_, fun b o z => ?_, e2.fr, ?_⟩ (.inl ⟨_, upd_same, merge_dt h3 .nil⟩) hF1 hp
    · rw [upd_ne (ne_of_none z hp)]; exact e2.sH _ _ z n
    · rw [upd_ne (ne_of_none z hF1)]; exact e2.le _ _ z
    · cases sx with
      | none => trivial
      | some pp =>
        obtain ⟨a1, b1⟩ := pp
        obtain ⟨n, cs, l, m, t, z1, z2, z⟩ := e2.ok
        exact ⟨n, cs, l, m, t, by rw [upd_ne (fun z => nx (.inl z.symm))]; exact z1, by rw [upd_ne (fun z => nx (.inr z.symm))]; exact z2, z⟩⟩
end W2

set_option Elab.async false
set_option linter.all false
set_option maxRecDepth 100000
/-! W2Y: over data alone: loops, lots of ints, dicts with lots as keys, sorting. -/
namespace W2
open PySem PySem.Spec PyProof.Rows L2 PySem.W

/-! ### loops -/
theorem lc_rel {α : Type} (e : α → D) (Rel : α → Option D → Prop) {g : WG} {tt : WT} {we : WE} {η : En} {Q : D → Prop} : ∀ (xs : List α) (acc : List D),
    (∀ x ∈ xs, ∀ R : Option D → Prop, (∀ o, Rel x o → R o) → g (e x) η fun η1 => tt η1 fun b => if b = true then we η1 fun y => R (some y) else R none) →
    acc.length + xs.length ≤ sizeLine → (∀ os, Paired Rel xs os → Q (.list (acc ++ os.filterMap id))) → lcGo g tt we η (xs.map e) acc Q
  | [], acc, _, _, q => by
    have q' := q [] .nil
    rw [List.filterMap_nil, List.append_nil] at q'
    exact q'
  | x :: r, acc, h, hl, q => by
    have hl' : acc.length + (r.length + 1) ≤ sizeLine := hl
    refine h x List.mem_cons_self (fun o => match o with | some y => acc.length < sizeLine ∧ lcGo g tt we η (r.map e) (acc ++ [y]) Q | none => lcGo g tt we η (r.map e) acc Q) fun o ho => ?_
    cases o with
    | none =>
      refine lc_rel e Rel r acc (fun y hy => h y (List.mem_cons_of_mem _ hy)) (by omega) fun os hos => ?_
      have q' := q (none :: os) (.cons ho hos)
      exact q'
    | some y =>
      refine ⟨by omega, lc_rel e Rel r (acc ++ [y]) (fun z hz => h z (List.mem_cons_of_mem _ hz)) (by rw [List.length_append]; show acc.length + 1 + r.length ≤ _; omega) fun os hos => ?_⟩
      have q' := q (some y :: os) (.cons ho hos)
      rw [List.append_assoc]
      exact q'
theorem paired_fn {α β : Type} {f : α → β} : ∀ {xs : List α} {ys : List β}, Paired (fun x y => y = f x) xs ys → ys = xs.map f
  | _, _, .nil => rfl
  | _, _, .cons h t => by rw [List.map_cons, h, paired_fn t]
theorem lc_fm {α : Type} (e : α → D) (f : α → Option D) {g : WG} {tt : WT} {we : WE} {η : En} {Q : D → Prop} (xs : List α)
    (h : ∀ x ∈ xs, ∀ R : Option D → Prop, R (f x) → g (e x) η fun η1 => tt η1 fun b => if b = true then we η1 fun y => R (some y) else R none)
    (hl : xs.length ≤ sizeLine) (q : Q (.list (xs.filterMap f))) : lcGo g tt we η (xs.map e) [] Q := by
  refine lc_rel e (fun x o => o = f x) xs [] (fun x hx R hR => h x hx R (hR _ rfl)) (by simpa using hl) fun os hos => ?_
  rw [paired_fn hos, List.nil_append, List.filterMap_map]
  exact q
/-- a loop, whatever it draws -/
inductive Steps {S α : Type} (St : S → α → S → Prop) : S → List α → S → Prop
  | nil {s : S} : Steps St s [] s
  | cons {s s1 s2 : S} {x : α} {r : List α} : St s x s1 → Steps St s1 r s2 → Steps St s (x :: r) s2
theorem for_rel {S α : Type} (e : α → D) (I : S → En → Prop) (St : S → α → S → Prop) {g : WG} {body : WS} {W : WEnds} : ∀ (xs : List α) (s : S) (η : En), I s η →
    (∀ x ∈ xs, ∀ s η, I s η → ∀ Kc : En → Prop, (∀ s' η', St s x s' → I s' η' → Kc η') → g (e x) η fun η1 => body { nx := Kc, rt := W.rt, bk := W.nx, ct := Kc } η1) →
    (∀ s' η', Steps St s xs s' → I s' η' → W.nx η') → forGo g body W (xs.map e) η
  | [], s, η, hi, _, hend => hend s η .nil hi
  | x :: r, s, η, hi, h, hend => h x List.mem_cons_self s η hi _ fun s' η' hs hi' =>
      for_rel e I St r s' η' hi' (fun y hy => h y (List.mem_cons_of_mem _ hy)) fun s2 η2 hst hi2 => hend s2 η2 (.cons hs hst) hi2
theorem steps_fold {S α : Type} {f : S → α → S} : ∀ {xs : List α} {s s' : S}, Steps (fun s x s' => s' = f s x) s xs s' → s' = xs.foldl f s
  | [], _, _, .nil => rfl
  | _ :: _, _, _, .cons h t => (steps_fold t).trans (by rw [h]; rfl)
theorem for_fold {S α : Type} (e : α → D) (I : S → En → Prop) (f : S → α → S) {g : WG} {body : WS} {W : WEnds} (xs : List α) (s : S) (η : En) (hi : I s η)
    (h : ∀ x ∈ xs, ∀ s η, I s η → ∀ Kc : En → Prop, (∀ η', I (f s x) η' → Kc η') → g (e x) η fun η1 => body { nx := Kc, rt := W.rt, bk := W.nx, ct := Kc } η1)
    (hend : ∀ η', I (xs.foldl f s) η' → W.nx η') : forGo g body W (xs.map e) η :=
  for_rel e I (fun s x s' => s' = f s x) xs s η hi (fun x hx s η hi Kc hk => h x hx s η hi Kc fun η' hi' => hk _ η' rfl hi') fun s' η' hst hi' => hend η' (by rw [← steps_fold hst]; exact hi')

/-! ### lots of ints, pairs of a lot and a number -/
def lotD (l : List Int) : D := .tuple (l.map .int)
def prD (p : List Int × Int) : D := .tuple [lotD p.1, .int p.2]
def rsD (s : List (List Int × Int)) : D := .tuple (s.map prD)
def mpE (p : List Int × Int) : D × D := (lotD p.1, .int p.2)
def mpD (m : List (List Int × Int)) : D := .dict (m.map mpE)
theorem eqvAll_ints : ∀ (a b : List Int), PyData.eqvAll (a.map .int) (b.map .int) = decide (a = b)
  | [], [] => rfl
  | [], _ :: _ => rfl
  | _ :: _, [] => rfl
  | x :: a, y :: b => by
    show (PyData.eqv (.int x) (.int y) && PyData.eqvAll (a.map .int) (b.map .int)) = _
    rw [eqvAll_ints a b]
    show ((x == y) && _) = _
    by_cases e : x = y
    · subst e
      by_cases e' : a = b
      · subst e'; simp
      · rw [decide_eq_false e', decide_eq_false (fun z => e' (List.cons.inj z).2), Bool.and_false]
    · rw [decide_eq_false (fun z => e (List.cons.inj z).1), beq_eq_false_iff_ne.mpr e, Bool.false_and]
theorem eqv_lot (a b : List Int) : PyData.eqv (lotD a) (lotD b) = decide (a = b) := eqvAll_ints a b
theorem eqv_pr (p q : List Int × Int) : PyData.eqv (prD p) (prD q) = decide (p = q) := by
  show (PyData.eqv (lotD p.1) (lotD q.1) && ((p.2 == q.2) && true)) = _
  rw [eqv_lot, Bool.and_true]
  by_cases e : p.1 = q.1
  · by_cases e' : p.2 = q.2
    · rw [decide_eq_true e, beq_iff_eq.mpr e', decide_eq_true (Prod.ext e e')]; rfl
    · rw [beq_eq_false_iff_ne.mpr e', Bool.and_false, decide_eq_false (fun z => e' (by rw [z]))]
  · rw [decide_eq_false e, Bool.false_and, decide_eq_false (fun z => e (by rw [z]))]
theorem eqvAll_map {α : Type} [DecidableEq α] {e : α → D} (h : ∀ a b, PyData.eqv (e a) (e b) = decide (a = b)) : ∀ (a b : List α), PyData.eqvAll (a.map e) (b.map e) = decide (a = b)
  | [], [] => rfl
  | [], _ :: _ => rfl
  | _ :: _, [] => rfl
  | x :: a, y :: b => by
    show (PyData.eqv (e x) (e y) && PyData.eqvAll (a.map e) (b.map e)) = _
    rw [eqvAll_map h a b, h]
    by_cases c : x = y
    · subst c
      by_cases e' : a = b
      · subst e'; simp
      · rw [decide_eq_false e', decide_eq_false (fun z => e' (List.cons.inj z).2), Bool.and_false]
    · rw [decide_eq_false (fun z => c (List.cons.inj z).1), decide_eq_false c, Bool.false_and]
theorem eqv_rs (s t : List (List Int × Int)) : PyData.eqv (rsD s) (rsD t) = decide (s = t) := eqvAll_map eqv_pr s t
/-! what can be laid, compared -/
theorem layAll_map {α : Type} {e : α → D} (h : ∀ a, (e a).canLay0 = true) : ∀ (l : List α), PyData.canLayAll0 (l.map e) = true
  | [] => rfl
  | x :: r => by
    show ((e x).canLay0 && PyData.canLayAll0 (r.map e)) = true
    rw [h, layAll_map h r]; rfl
theorem depthAll_map {α : Type} {e : α → D} {n : Nat} (h : ∀ a, (e a).depth ≤ n) : ∀ (l : List α), PyData.depthAll (l.map e) ≤ n
  | [] => Nat.zero_le _
  | x :: r => by
    show max (e x).depth (PyData.depthAll (r.map e)) ≤ n
    exact Nat.max_le.mpr ⟨h x, depthAll_map h r⟩
theorem lay_lot (l : List Int) : (lotD l).canLay0 = true := layAll_map (e := PyData.int) (fun _ => rfl) l
theorem depth_lot (l : List Int) : (lotD l).depth ≤ 1 := Nat.succ_le_succ (depthAll_map (e := PyData.int) (fun _ => Nat.le_refl 0) l)
theorem lay_pr (p : List Int × Int) : (prD p).canLay0 = true := by
  show ((lotD p.1).canLay0 && (true && true)) = true
  rw [lay_lot]; rfl
theorem depth_pr (p : List Int × Int) : (prD p).depth ≤ 2 := by
  show max (lotD p.1).depth (max 0 0) + 1 ≤ 2
  have := depth_lot p.1
  omega
theorem lay_rs (s : List (List Int × Int)) : (rsD s).canLay0 = true := layAll_map lay_pr s
theorem depth_rs (s : List (List Int × Int)) : (rsD s).depth ≤ 3 := Nat.succ_le_succ (depthAll_map depth_pr s)
theorem shaped_of {d : D} (h1 : d.canLay0 = true) (h2 : d.depth ≤ 64) : SeqAt.shaped d = true := by
  unfold SeqAt.shaped
  rw [h1, decide_eq_true h2]; rfl
theorem shaped_lot (l : List Int) : SeqAt.shaped (lotD l) = true := shaped_of (lay_lot l) (Nat.le_trans (depth_lot l) (by decide))
theorem shaped_rs (s : List (List Int × Int)) : SeqAt.shaped (rsD s) = true := shaped_of (lay_rs s) (Nat.le_trans (depth_rs s) (by decide))
theorem eqOk_of {x y : D} (h1 : SeqAt.shaped x = true) (h2 : SeqAt.shaped y = true) : eqOk x y = true := by
  unfold eqOk
  cases x <;> cases y <;> simp_all
theorem alikeAll_map {α : Type} {e : α → D} (h : ∀ a b, alike (e a) (e b) = true) : ∀ (a b : List α), alikeAll (a.map e) (b.map e) = true
  | [], _ => by simp [alikeAll]
  | _ :: _, [] => by simp [alikeAll]
  | x :: a, y :: b => by
    show alikeAll (e x :: a.map e) (e y :: b.map e) = true
    rw [alikeAll, h, alikeAll_map h a b]; rfl
theorem alike_lot (a b : List Int) : alike (lotD a) (lotD b) = true := by
  show alike (.tuple _) (.tuple _) = true
  rw [alike]
  exact alikeAll_map (fun _ _ => by rw [alike]) a b
theorem alike_pr (p q : List Int × Int) : alike (prD p) (prD q) = true := by
  show alike (.tuple _) (.tuple _) = true
  rw [alike, alikeAll, alike_lot, alikeAll, alike, alikeAll]; rfl
theorem sortOk_map {α : Type} {e : α → D} (l : List α) (h1 : ∀ a b, alike (e a) (e b) = true) (h2 : ∀ a, isTup (e a) = true) (h3 : ∀ a, (e a).depth ≤ 64) : sortOk (l.map e) = true := by
  unfold sortOk
  rw [Bool.and_eq_true, Bool.and_eq_true]
  refine ⟨⟨?_, ?_⟩, ?_⟩
  · rw [List.all_eq_true]
    intro d hd
    rw [List.all_eq_true]
    intro d' hd'
    obtain ⟨a, _, rfl⟩ := List.mem_map.mp hd
    obtain ⟨b, _, rfl⟩ := List.mem_map.mp hd'
    exact h1 a b
  · rw [Bool.or_eq_true]
    refine .inl ?_
    rw [List.all_eq_true]
    intro d hd
    obtain ⟨a, _, rfl⟩ := List.mem_map.mp hd
    exact h2 a
  · rw [List.all_eq_true]
    intro d hd
    obtain ⟨a, _, rfl⟩ := List.mem_map.mp hd
    exact decide_eq_true (h3 a)
theorem sortOk_pr (l : List (List Int × Int)) : sortOk (l.map prD) = true := sortOk_map l alike_pr (fun _ => rfl) fun p => Nat.le_trans (depth_pr p) (by decide)
theorem sortOk_lot (l : List (List Int)) : sortOk (l.map lotD) = true := sortOk_map l alike_lot (fun _ => rfl) fun p => Nat.le_trans (depth_lot p) (by decide)
/-! the orders -/
def leP (p q : List Int × Int) : Bool := dataLe false id (prD p) (prD q)
def leL (p q : List Int) : Bool := dataLe false id (lotD p) (lotD q)
theorem leP_total : TotalLe leP := ⟨fun a b c h1 h2 => (sortLe_total (listOrd itemOrd) false keyToks).trans (prD a) (prD b) (prD c) h1 h2, fun a b => (sortLe_total (listOrd itemOrd) false keyToks).total (prD a) (prD b)⟩
theorem leL_total : TotalLe leL := ⟨fun a b c h1 h2 => (sortLe_total (listOrd itemOrd) false keyToks).trans (lotD a) (lotD b) (lotD c) h1 h2, fun a b => (sortLe_total (listOrd itemOrd) false keyToks).total (lotD a) (lotD b)⟩
theorem sortD_pr (l : List (List Int × Int)) : sortD (l.map prD) = (l.mergeSort leP).map prD := (sort_maps (r := leP) (s := dataLe false id) prD fun a _ b _ => rfl).symm
theorem sortD_lot (l : List (List Int)) : sortD (l.map lotD) = (l.mergeSort leL).map lotD := (sort_maps (r := leL) (s := dataLe false id) lotD fun a _ b _ => rfl).symm
theorem le_toks {x y : D} (h1 : dataLe false id x y = true) (h2 : dataLe false id y x = true) : keyToks x = keyToks y := by
  have e1 : (!(listOrd itemOrd).blt (keyToks y) (keyToks x)) = true := h1
  have e2 : (!(listOrd itemOrd).blt (keyToks x) (keyToks y)) = true := h2
  rw [Bool.not_eq_true'] at e1 e2
  exact (listOrd itemOrd).total _ _ e2 e1
theorem eq_of_toks {x y : D} (ha : alike x y = true) (h : keyToks x = keyToks y) : PyData.eqv x y = true := by
  cases q : PyData.eqv x y with
  | true => rfl
  | false =>
    have t := (toks_eqv x y ha).2 q [] [.inl 0]
    rw [h] at t
    have irr : PyProof.Rows.lexLt itemOrd (keyToks y) (keyToks y) = false := (listOrd itemOrd).irrefl (keyToks y)
    rw [irr, lex_pre] at t
    cases t
theorem leP_anti {p q : List Int × Int} (h1 : leP p q = true) (h2 : leP q p = true) : p = q := by
  have e := eq_of_toks (alike_pr p q) (le_toks h1 h2)
  rw [eqv_pr] at e
  exact of_decide_eq_true e
theorem leL_anti {p q : List Int} (h1 : leL p q = true) (h2 : leL q p = true) : p = q := by
  have e := eq_of_toks (alike_lot p q) (le_toks h1 h2)
  rw [eqv_lot] at e
  exact of_decide_eq_true e
theorem leP_key {p q : List Int × Int} (h : leL p.1 q.1 = true) (hn : p.1 ≠ q.1) : leP p q = true := by
  have h' : (!dataLt (lotD q.1) (lotD p.1)) = true := h
  show (!dataLt (prD q) (prD p)) = true
  unfold prD
  rw [dataLt_pair (alike_lot _ _) (by rw [alike]), eqv_lot, decide_eq_false (fun z => hn z.symm)]
  exact h'
theorem sort_of_perm {α : Type} {le : α → α → Bool} (ht : TotalLe le) (ha : ∀ a b, le a b = true → le b a = true → a = b) {l m : List α} (hp : l.Perm m) : l.mergeSort le = m.mergeSort le :=
  List.Perm.eq_of_pairwise (le := fun a b => le a b = true) (fun a b _ _ => ha a b) (sort_pairwise ht l) (sort_pairwise ht m) (((List.mergeSort_perm l le).trans hp).trans (List.mergeSort_perm m le).symm)
end W2
namespace W2
open PySem PySem.Spec PyProof.Rows L2 PySem.W
/-- a loop whose state grows by at most w x at x -/
theorem for_foldW {S α : Type} (e : α → D) (I : S → En → Prop) (f : S → α → S) (c : S → Nat) (wt : α → Nat) (hc : ∀ s x, c (f s x) ≤ c s + wt x) {B : Nat} {g : WG} {body : WS} {W : WEnds} : ∀ (xs : List α) (s : S) (η : En), I s η → c s + (xs.map wt).sum ≤ B →
    (∀ x ∈ xs, ∀ s η, I s η → c s + wt x ≤ B → ∀ Kc : En → Prop, (∀ η', I (f s x) η' → Kc η') → g (e x) η fun η1 => body { nx := Kc, rt := W.rt, bk := W.nx, ct := Kc } η1) →
    (∀ η', I (xs.foldl f s) η' → W.nx η') → forGo g body W (xs.map e) η
  | [], s, η, hi, _, _, hend => hend η hi
  | x :: r, s, η, hi, hB, h, hend => by
    rw [List.map_cons, List.sum_cons] at hB
    have h1 := hc s x
    exact h x List.mem_cons_self s η hi (by omega) _ fun η' hi' => for_foldW e I f c wt hc r (f s x) η' hi' (by omega) (fun y hy => h y (List.mem_cons_of_mem _ hy)) hend
/-! ### ints -/
def sortI (l : List Int) : List Int := l.mergeSort fun a b => decide (a ≤ b)
theorem sortD_int (l : List Int) : sortD (l.map .int) = (sortI l).map .int := by
  unfold sortD sortI
  exact (sort_maps (r := fun a b : Int => decide (a ≤ b)) (s := dataLe false id) PyData.int fun a _ b _ => (congrFun (congrFun (dataLe_int (fun x : Int => x)) a) b).symm).symm
theorem sortOk_int (l : List Int) : sortOk (l.map .int) = true := by
  unfold sortOk
  rw [Bool.and_eq_true, Bool.and_eq_true]
  refine ⟨⟨?_, ?_⟩, ?_⟩
  · rw [List.all_eq_true]
    intro d hd
    rw [List.all_eq_true]
    intro d' hd'
    obtain ⟨a, _, rfl⟩ := List.mem_map.mp hd
    obtain ⟨b, _, rfl⟩ := List.mem_map.mp hd'
    rw [alike]
  · rw [Bool.or_eq_true]
    refine .inr ?_
    rw [List.all_eq_true]
    intro d hd
    obtain ⟨a, _, rfl⟩ := List.mem_map.mp hd
    rfl
  · rw [List.all_eq_true]
    intro d hd
    obtain ⟨a, _, rfl⟩ := List.mem_map.mp hd
    exact decide_eq_true (Nat.zero_le _)
theorem lay_ints (l : List Int) : PyData.canLayAll0 (l.map .int) = true := layAll_map (e := PyData.int) (fun _ => rfl) l
theorem any_int (l : List Int) (x : Int) : (l.map PyData.int).any (fun z => PyData.eqv z (.int x)) = decide (x ∈ l) := by
  rw [List.any_map]
  induction l with
  | nil => simp
  | cons y r ih =>
    rw [List.any_cons, ih]
    show ((y == x) || _) = _
    by_cases e : y = x
    · subst e; simp
    · rw [beq_eq_false_iff_ne.mpr e, Bool.false_or]
      by_cases h : x ∈ r
      · rw [decide_eq_true h, decide_eq_true (List.mem_cons_of_mem _ h)]
      · rw [decide_eq_false h, decide_eq_false (fun z => (List.mem_cons.mp z).elim (fun q => e q.symm) h)]
theorem in_lot {neg : Bool} {x : Int} {l : List Int} {Q : D → Prop} (h : Q (.bool (if neg then !decide (x ∈ l) else decide (x ∈ l)))) : gInA neg (.int x) (lotD l) Q := by
  refine ⟨rfl, shaped_lot l, ?_⟩
  rw [any_int]
  exact h
theorem filterMap_some {α β : Type} (p : α → Bool) (f : α → β) : ∀ (l : List α), l.filterMap (fun x => if p x = true then some (f x) else none) = (l.filter p).map f
  | [] => rfl
  | x :: r => by
    rw [List.filterMap_cons, List.filter_cons, filterMap_some p f r]
    cases h : p x
    · rfl
    · rfl
end W2

set_option Elab.async false
set_option linter.all false
set_option maxRecDepth 100000
/-! W2Z: numbers at lots: what stands at a key, what is told. -/
namespace W2
open PySem PySem.Spec PyProof.Rows L2 PySem.W

abbrev LI := List Int × Int
def val (m : List LI) (k : List Int) : Int := ((m.find? fun p => decide (p.1 = k)).map (·.2)).getD 0
def put (m : List LI) (k : List Int) (v : Int) : List LI := if (m.any fun p => decide (p.1 = k)) = true then m.map (fun p => if p.1 = k then (p.1, v) else p) else m ++ [(k, v)]
def Keys (m : List LI) : Prop := (m.map (·.1)).Nodup
theorem keyOk_lot (l : List Int) : keyOk (lotD l) = true := by
  show (l.map PyData.int).all intKey = true
  rw [List.all_map, List.all_eq_true]
  intro _ _; rfl
theorem kindOk_mp (m : List LI) (k : List Int) : kindOk (m.map mpE) (lotD k) = true := by
  unfold kindOk
  rw [List.all_map, List.all_eq_true]
  intro _ _; rfl
theorem dGet_mp (k : List Int) : ∀ (m : List LI), dGet (m.map mpE) (lotD k) = (m.find? fun p => decide (p.1 = k)).map fun p => .int p.2
  | [] => rfl
  | p :: r => by
    have ih := dGet_mp k r
    unfold dGet at ih ⊢
    rw [List.map_cons, List.find?_cons, List.find?_cons, show PyData.eqv (mpE p).1 (lotD k) = decide (p.1 = k) from eqv_lot p.1 k]
    by_cases e : p.1 = k
    · rw [decide_eq_true e]; rfl
    · rw [decide_eq_false e]; exact ih
theorem dGet_val (m : List LI) (k : List Int) : (dGet (m.map mpE) (lotD k)).getD (.int 0) = .int (val m k) := by
  rw [dGet_mp]
  unfold val
  cases m.find? fun p => decide (p.1 = k) <;> rfl
theorem dPut_mp (m : List LI) (k : List Int) (v : Int) : dPut (m.map mpE) (lotD k) (.int v) = (put m k v).map mpE := by
  unfold dPut put
  have e1 : ((m.map mpE).any fun e => PyData.eqv e.1 (lotD k)) = m.any fun p => decide (p.1 = k) := by
    rw [List.any_map]
    congr 1
    funext p
    exact eqv_lot p.1 k
  rw [e1]
  by_cases c : (m.any fun p => decide (p.1 = k)) = true
  · rw [if_pos c, if_pos c, List.map_map, List.map_map]
    refine List.map_congr_left fun p _ => ?_
    show (if PyData.eqv (lotD p.1) (lotD k) = true then (lotD p.1, PyData.int v) else mpE p) = mpE (if p.1 = k then (p.1, v) else p)
    rw [eqv_lot]
    by_cases e : p.1 = k
    · rw [decide_eq_true e, if_pos rfl, if_pos e]; rfl
    · rw [decide_eq_false e, if_neg Bool.false_ne_true, if_neg e]
  · rw [if_neg c, if_neg c, List.map_append]; rfl
theorem val_nil (k : List Int) : val [] k = 0 := rfl
theorem val_cons (p : LI) (r : List LI) (k : List Int) : val (p :: r) k = if p.1 = k then p.2 else val r k := by
  unfold val
  rw [List.find?_cons]
  by_cases e : p.1 = k
  · rw [decide_eq_true e, if_pos e]; rfl
  · rw [decide_eq_false e, if_neg e]
theorem val_none {k : List Int} : ∀ {m : List LI}, k ∉ m.map (·.1) → val m k = 0
  | [], _ => rfl
  | p :: r, h => by
    rw [val_cons, if_neg (fun z => h (by rw [← z]; exact List.mem_cons_self)), val_none fun z => h (List.mem_cons_of_mem _ z)]
theorem val_mem : ∀ {m : List LI}, Keys m → ∀ {p : LI}, p ∈ m → val m p.1 = p.2
  | q :: r, h, p, hp => by
    have h' := List.nodup_cons.mp (show ((q :: r).map (·.1)).Nodup from h)
    rw [val_cons]
    rcases List.mem_cons.mp hp with e | hp
    · subst e; rw [if_pos rfl]
    · rw [if_neg (fun z => h'.1 (by show q.1 ∈ _; rw [z]; exact List.mem_map_of_mem hp))]
      exact val_mem h'.2 hp
theorem mem_val : ∀ {m : List LI} {k : List Int}, val m k ≠ 0 → (k, val m k) ∈ m
  | [], _, h => absurd rfl h
  | q :: r, k, h => by
    rw [val_cons] at h ⊢
    by_cases e : q.1 = k
    · rw [if_pos e, ← e]; exact List.mem_cons_self
    · rw [if_neg e] at h ⊢
      exact List.mem_cons_of_mem _ (mem_val h)
theorem any_key {m : List LI} {k : List Int} : (m.any fun p => decide (p.1 = k)) = true ↔ k ∈ m.map (·.1) := by
  rw [List.any_eq_true, List.mem_map]
  constructor
  · rintro ⟨p, hp, e⟩; exact ⟨p, hp, of_decide_eq_true e⟩
  · rintro ⟨p, hp, e⟩; exact ⟨p, hp, decide_eq_true e⟩
theorem over_keys (k : List Int) (v : Int) : ∀ (m : List LI), (m.map fun p => if p.1 = k then (p.1, v) else p).map (·.1) = m.map (·.1)
  | [] => rfl
  | p :: r => by
    rw [List.map_cons, List.map_cons, List.map_cons, over_keys k v r]
    by_cases e : p.1 = k
    · rw [if_pos e]
    · rw [if_neg e]
theorem val_over (k : List Int) (v : Int) (k' : List Int) : ∀ (m : List LI), k ∈ m.map (·.1) → val (m.map fun p => if p.1 = k then (p.1, v) else p) k' = if k' = k then v else val m k'
  | [], h => by cases h
  | p :: r, h => by
    rw [List.map_cons, val_cons, val_cons]
    by_cases e : p.1 = k
    · rw [if_pos e]
      show (if p.1 = k' then v else _) = _
      by_cases e' : k' = k
      · rw [if_pos (e.trans e'.symm), if_pos e']
      · have ne : p.1 ≠ k' := fun z => e' (z.symm.trans e)
        rw [if_neg ne, if_neg e', if_neg ne]
        by_cases hr : k ∈ r.map (·.1)
        · rw [val_over k v k' r hr, if_neg e']
        · have : (r.map fun p => if p.1 = k then (p.1, v) else p) = r := by
            have t : ∀ q ∈ r, (if q.1 = k then (q.1, v) else q) = q := fun q hq => if_neg fun z => hr (by rw [← z]; exact List.mem_map_of_mem hq)
            rw [List.map_congr_left t, List.map_id']
          rw [this]
    · rw [if_neg e]
      have hr : k ∈ r.map (·.1) := by
        rcases List.mem_cons.mp h with z | z
        · exact absurd z.symm e
        · exact z
      by_cases c : p.1 = k'
      · rw [if_pos c, if_pos c, if_neg (fun z => e (c.trans z))]
      · rw [if_neg c, if_neg c]
        exact val_over k v k' r hr
theorem val_snoc (k : List Int) (v : Int) (k' : List Int) : ∀ (m : List LI), k ∉ m.map (·.1) → val (m ++ [(k, v)]) k' = if k' = k then v else val m k'
  | [], _ => by
    rw [List.nil_append, val_cons]
    by_cases e : k = k'
    · rw [if_pos e, if_pos e.symm]
    · rw [if_neg e, if_neg (fun z => e z.symm)]
  | p :: r, h => by
    rw [List.cons_append, val_cons, val_cons]
    have hk : p.1 ≠ k := fun z => h (by rw [← z]; exact List.mem_cons_self)
    by_cases c : p.1 = k'
    · rw [if_pos c, if_pos c, if_neg (fun z => hk (c.trans z))]
    · rw [if_neg c, if_neg c]
      exact val_snoc k v k' r fun z => h (List.mem_cons_of_mem _ z)
theorem val_put (m : List LI) (k : List Int) (v : Int) (k' : List Int) : val (put m k v) k' = if k' = k then v else val m k' := by
  unfold put
  by_cases c : (m.any fun p => decide (p.1 = k)) = true
  · rw [if_pos c]; exact val_over k v k' m (any_key.mp c)
  · rw [if_neg c]; exact val_snoc k v k' m fun z => c (any_key.mpr z)
theorem put_keys {m : List LI} {k : List Int} {v : Int} (h : Keys m) : Keys (put m k v) := by
  unfold put Keys
  by_cases c : (m.any fun p => decide (p.1 = k)) = true
  · rw [if_pos c, over_keys]; exact h
  · rw [if_neg c, List.map_append]
    refine List.nodup_append.mpr ⟨h, by simp, fun a ha b hb => ?_⟩
    have e : b = k := by simpa using hb
    subst e
    intro z
    subst z
    exact c (any_key.mpr ha)
theorem put_length (m : List LI) (k : List Int) (v : Int) : (put m k v).length ≤ m.length + 1 := by
  unfold put
  split
  · rw [List.length_map]; omega
  · rw [List.length_append]; exact Nat.le_refl _

/-! ### what is told -/
def nz (m : List LI) : List LI := m.filter fun p => decide (p.2 ≠ 0)
def told (m : List LI) : List LI := (nz m).mergeSort leP
theorem Keys.nodup : ∀ {m : List LI}, Keys m → m.Nodup
  | [], _ => List.nodup_nil
  | p :: r, h => by
    have h' := List.nodup_cons.mp (show ((p :: r).map (·.1)).Nodup from h)
    exact List.nodup_cons.mpr ⟨fun z => h'.1 (List.mem_map_of_mem z), Keys.nodup h'.2⟩
theorem Keys.filter {m : List LI} (h : Keys m) (f : LI → Bool) : Keys (m.filter f) := by
  unfold Keys at h ⊢
  exact List.Nodup.sublist (List.Sublist.map _ (List.filter_sublist)) h
theorem Keys.perm {m n : List LI} (h : Keys m) (p : m.Perm n) : Keys n := (p.map _).nodup_iff.mp h
theorem told_perm (m : List LI) : (told m).Perm (nz m) := List.mergeSort_perm _ _
theorem told_keys {m : List LI} (h : Keys m) : Keys (told m) := (h.filter _).perm (told_perm m).symm
theorem mem_told {m : List LI} {p : LI} : p ∈ told m ↔ p ∈ m ∧ p.2 ≠ 0 := by
  rw [(told_perm m).mem_iff]
  unfold nz
  rw [List.mem_filter, decide_eq_true_iff]
theorem val_told {m : List LI} (h : Keys m) (k : List Int) : val (told m) k = val m k := by
  by_cases c : val m k = 0
  · rw [c]
    by_cases d : val (told m) k = 0
    · exact d
    · have h1 := mem_told.mp (mem_val d)
      have h2 := val_mem h h1.1
      exact absurd (h2.symm.trans c) h1.2
  · have h1 := mem_val c
    exact val_mem (told_keys h) (mem_told.mpr ⟨h1, c⟩)
theorem told_ext {m n : List LI} (hm : Keys m) (hn : Keys n) (h : ∀ k, val m k = val n k) : told m = told n := by
  have go : ∀ {a b : List LI}, Keys a → Keys b → (∀ k, val a k = val b k) → ∀ p, p ∈ nz a → p ∈ nz b := fun {a b} ha hb e p hp => by
    unfold nz at hp ⊢
    rw [List.mem_filter, decide_eq_true_iff] at hp ⊢
    have e1 := val_mem ha hp.1
    rw [e] at e1
    have e2 : val b p.1 ≠ 0 := by rw [e1]; exact hp.2
    have e3 := mem_val e2
    rw [e1] at e3
    exact ⟨e3, hp.2⟩
  have p : (nz m).Perm (nz n) := (List.perm_ext_iff_of_nodup (hm.filter _).nodup (hn.filter _).nodup).mpr fun p => ⟨go hm hn h p, go hn hm (fun k => (h k).symm) p⟩
  exact sort_of_perm leP_total (fun a b => leP_anti) p
/-- as the laws tell it: by the sorted keys -/
def ltold (m : List LI) : List LI := ((m.map (·.1)).mergeSort leL).filterMap fun k => if val m k ≠ 0 then some (k, val m k) else none
theorem nz_keys {m : List LI} : ∀ {r : List LI}, (∀ p ∈ r, val m p.1 = p.2) → (r.map (·.1)).filterMap (fun k => if val m k ≠ 0 then some (k, val m k) else none) = nz r
  | [], _ => rfl
  | p :: r, h => by
    have e := h p List.mem_cons_self
    have ih := nz_keys fun q hq => h q (List.mem_cons_of_mem _ hq)
    unfold nz at ih ⊢
    rw [List.map_cons, List.filterMap_cons, List.filter_cons, e]
    by_cases c : p.2 = 0
    · rw [if_neg (fun z => z c), decide_eq_false (fun z => z c)]
      exact ih
    · rw [if_pos c, decide_eq_true c, if_pos rfl, ← ih]
theorem ltold_eq {m : List LI} (h : Keys m) : ltold m = told m := by
  refine List.Perm.eq_of_pairwise (le := fun a b => leP a b = true) (fun a b _ _ => leP_anti) ?_ (sort_pairwise leP_total _) ?_
  · unfold ltold
    have nd : ((m.map (·.1)).mergeSort leL).Nodup := (List.mergeSort_perm _ _).nodup_iff.mpr h
    have pw : ((m.map (·.1)).mergeSort leL).Pairwise fun a b => leL a b = true ∧ a ≠ b := (sort_pairwise leL_total _).and (List.nodup_iff_pairwise_ne.mp nd)
    rw [List.pairwise_filterMap]
    refine pw.imp fun {a b} hab x hx y hy => ?_
    have ex : x = (a, val m a) := by
      by_cases c : val m a ≠ 0
      · rw [if_pos c] at hx; exact (Option.some.inj hx).symm
      · rw [if_neg c] at hx; cases hx
    have ey : y = (b, val m b) := by
      by_cases c : val m b ≠ 0
      · rw [if_pos c] at hy; exact (Option.some.inj hy).symm
      · rw [if_neg c] at hy; cases hy
    subst ex ey
    exact leP_key hab.1 hab.2
  · refine List.Perm.trans ?_ (told_perm m).symm
    unfold ltold
    refine ((List.mergeSort_perm _ _).filterMap _).trans ?_
    rw [nz_keys fun p hp => val_mem h hp]
end W2

set_option Elab.async false
set_option linter.all false
set_option maxRecDepth 100000
/-! W2AA: data tools shared by the laws: loops over a range, frames, what is shown, sorted ints. -/
namespace W2
open PySem PySem.Spec PyProof.Rows L2 PySem.W
theorem for_ix (e : Nat → W2.D) (I : Nat → En → Prop) {g : WG} {body : WS} {W : WEnds} {n : Nat} (h : ∀ i, i < n → ∀ η, I i η → ∀ Kc : En → Prop, (∀ η', I (i + 1) η' → Kc η') → g (e i) η fun η1 => body { nx := Kc, rt := W.rt, bk := W.nx, ct := Kc } η1)
    (hend : ∀ η, I n η → W.nx η) {η : En} (h0 : I 0 η) : forGo g body W ((List.range n).map e) η := by
  rw [List.range_eq_range']
  have go : ∀ (m i : Nat) (η : En), i + m = n → I i η → forGo g body W ((List.range' i m).map e) η := by
    intro m
    induction m with
    | zero =>
      intro i η e hi
      have : i = n := by omega
      subst this
      exact hend η hi
    | succ m ih =>
      intro i η e hi
      exact h i (by omega) η hi _ fun η' hi' => ih (i + 1) η' (by omega) hi'
  exact go n 0 η (by omega) h0
def rdD (p : Int × Int) : W2.D := .tuple [.int p.1, .int p.2]
def frD (n : Int) (roads : List (Int × Int)) : W2.D := .tuple [.int n, .tuple (roads.map rdD)]
theorem filterMap_nil {α β : Type} {f : α → Option β} : ∀ {l : List α}, l.filterMap f = [] ↔ ∀ x ∈ l, f x = none
  | [] => by simp
  | x :: r => by
    rw [List.filterMap_cons]
    cases h : f x with
    | none =>
      show r.filterMap f = [] ↔ _
      rw [filterMap_nil]
      simp [h]
    | some y =>
      show y :: r.filterMap f = [] ↔ _
      simp [h]
theorem fold_len {α : Type} {f : List LI → α → List LI} {n : Nat} (h : ∀ m x, (f m x).length ≤ m.length + n) : ∀ (l : List α) (m : List LI), (l.foldl f m).length ≤ m.length + l.length * n
  | [], m => by simp
  | x :: r, m => by
    have h1 := fold_len h r (f m x)
    have h2 := h m x
    rw [List.foldl_cons, List.length_cons, Nat.succ_mul]
    omega
theorem sum_const {α : Type} (n : Nat) : ∀ (l : List α), (l.map fun _ => n).sum = l.length * n
  | [] => by simp
  | _ :: r => by rw [List.map_cons, List.sum_cons, sum_const n r, List.length_cons, Nat.succ_mul]; omega
theorem le_line {n : Nat} (h : n ≤ 1000000) : n ≤ sizeLine := Nat.le_trans h (by rw [sizeLine_eq]; decide)
theorem sum_one {α : Type} : ∀ (l : List α), (l.map fun _ => 1).sum = l.length
  | [] => rfl
  | _ :: r => by rw [List.map_cons, List.sum_cons, sum_one r, List.length_cons]; omega
theorem perm_of_map {α β : Type} {f : α → β} {l1 l2 : List β} (h : l1.Perm l2) : ∀ (s : List α), l2 = s.map f → ∃ t : List α, t.Perm s ∧ l1 = t.map f := by
  induction h with
  | nil => intro s e; cases s with | nil => exact ⟨[], .refl _, rfl⟩ | cons _ _ => cases e
  | cons x _ ih =>
    intro s e
    cases s with
    | nil => cases e
    | cons a r =>
      rw [List.map_cons] at e
      obtain ⟨e1, e2⟩ := List.cons.inj e
      obtain ⟨t, h1, h2⟩ := ih r e2
      exact ⟨a :: t, h1.cons a, by rw [List.map_cons, ← h2, e1]⟩
  | swap x y l =>
    intro s e
    cases s with
    | nil => cases e
    | cons a r =>
      cases r with
      | nil => rw [List.map_cons, List.map_nil] at e; cases (List.cons.inj e).2
      | cons b r =>
        rw [List.map_cons, List.map_cons] at e
        obtain ⟨e1, e2⟩ := List.cons.inj e
        obtain ⟨e3, e4⟩ := List.cons.inj e2
        exact ⟨b :: a :: r, .swap _ _ _, by rw [List.map_cons, List.map_cons, ← e1, ← e3, ← e4]⟩
  | trans _ _ ih1 ih2 =>
    intro s e
    obtain ⟨t, h1, h2⟩ := ih2 s e
    obtain ⟨u, h3, h4⟩ := ih1 t h2
    exact ⟨u, h3.trans h1, h4⟩
def Good (n : Int) (s : List (Int × Int)) : Prop := ∀ p ∈ s, (0 ≤ p.1 ∧ p.1 < n) ∧ 0 ≤ p.2 ∧ p.2 < n
theorem int_at {l : List Int} {i : Int} (h0 : 0 ≤ i) (h1 : i < l.length) : ∃ x ∈ l, L2.atI (l.map PyData.int) i = some (.int x) := by
  have hi : i.toNat < l.length := by omega
  refine ⟨l[i.toNat], List.getElem_mem _, ?_⟩
  unfold L2.atI ixN
  rw [List.length_map, if_pos h0, if_pos h1]
  show (l.map PyData.int)[i.toNat]? = _
  rw [List.getElem?_map, List.getElem?_eq_getElem hi]; rfl
theorem flip_out {n : Int} : ∀ {t : List (Int × Int)} {os : List (Option W2.D)}, Paired (fun p o => o = some (rdD p) ∨ o = some (rdD (p.2, p.1))) t os → Good n t → ∃ u : List (Int × Int), os.filterMap id = u.map rdD ∧ u.length = t.length ∧ Good n u
  | _, _, .nil, _ => ⟨[], rfl, rfl, fun _ h => by cases h⟩
  | _, _, .cons (a := p) h r, hg => by
    obtain ⟨u, h1, h2, h3⟩ := flip_out r fun q hq => hg q (List.mem_cons_of_mem _ hq)
    have hp := hg p List.mem_cons_self
    rcases h with rfl | rfl
    · refine ⟨p :: u, ?_, by rw [List.length_cons, List.length_cons, h2], fun q hq => ?_⟩
      · rw [List.filterMap_cons]; show rdD p :: _ = _; rw [h1, List.map_cons]
      · rcases List.mem_cons.mp hq with e | e
        · subst e; exact hp
        · exact h3 q e
    · refine ⟨(p.2, p.1) :: u, ?_, by rw [List.length_cons, List.length_cons, h2], fun q hq => ?_⟩
      · rw [List.filterMap_cons]; show rdD (p.2, p.1) :: _ = _; rw [h1, List.map_cons]
      · rcases List.mem_cons.mp hq with e | e
        · subst e; exact ⟨hp.2, hp.1⟩
        · exact h3 q e
theorem good_snoc {n : Int} {s : List (Int × Int)} {a b : Int} (h : Good n s) (ha : 0 ≤ a ∧ a < n) (hb : 0 ≤ b ∧ b < n) : Good n (s ++ [(a, b)]) := fun p hp => by
  rcases List.mem_append.mp hp with e | e
  · exact h p e
  · have : p = (a, b) := by simpa using e
    subst this
    exact ⟨ha, hb⟩
theorem rd_snoc (s : List (Int × Int)) (a b : Int) : s.map rdD ++ [.tuple [.int a, .int b]] = (s ++ [(a, b)]).map rdD := by rw [List.map_append]; rfl
def SS (l : List Int) : Prop := l.Pairwise (· < ·)
theorem SS.nodup {l : List Int} (h : SS l) : l.Nodup := List.nodup_iff_pairwise_ne.mpr (h.imp fun h => Int.ne_of_lt h)
theorem SS.le {l : List Int} (h : SS l) : l.Pairwise (· ≤ ·) := h.imp fun h => Int.le_of_lt h
theorem ss_unique {a b : List Int} (ha : SS a) (hb : SS b) (h : a.Perm b) : a = b :=
  List.Perm.eq_of_pairwise (le := (· ≤ ·)) (fun _ _ _ _ h1 h2 => Int.le_antisymm h1 h2) ha.le hb.le h
theorem sortI_perm (l : List Int) : (W2.sortI l).Perm l := List.mergeSort_perm _ _
theorem sortI_le (l : List Int) : (W2.sortI l).Pairwise (· ≤ ·) := by
  have h := List.pairwise_mergeSort (le := fun a b : Int => decide (a ≤ b)) (fun a b c h1 h2 => decide_eq_true (Int.le_trans (of_decide_eq_true h1) (of_decide_eq_true h2))) (fun a b => by
    rcases Int.le_total a b with h | h
    · simp [h]
    · simp [h]) l
  exact h.imp fun h => of_decide_eq_true h
theorem sortI_ss {l : List Int} (h : l.Nodup) : SS (W2.sortI l) := by
  have h1 := sortI_le l
  have h2 : (W2.sortI l).Nodup := (sortI_perm l).nodup_iff.mpr h
  exact (h1.and (List.nodup_iff_pairwise_ne.mp h2)).imp fun h => by omega
theorem nodup_le {α : Type} [BEq α] [LawfulBEq α] : ∀ {l m : List α}, l.Nodup → (∀ x ∈ l, x ∈ m) → l.length ≤ m.length
  | [], _, _, _ => Nat.zero_le _
  | x :: r, m, h, hs => by
    have h' := List.nodup_cons.mp h
    have hx := hs x List.mem_cons_self
    have ih := nodup_le (l := r) (m := m.erase x) h'.2 fun y hy => by
      refine (List.mem_erase_of_ne ?_).mpr (hs y (List.mem_cons_of_mem _ hy))
      intro z; subst z; exact h'.1 hy
    rw [List.length_erase_of_mem hx] at ih
    have pos : 0 < m.length := List.length_pos_of_mem hx
    rw [List.length_cons]
    omega
theorem sh_tuple (xs : List W2.D) : (PyData.tuple xs).shown.length ≤ 3 + piled (PyData.shownAll xs) := by
  show (tupleText (PyData.shownAll xs)).length ≤ _
  unfold tupleText
  rw [strLen_append, strLen_append]
  have e1 : ((("(" : String) : Str)).length = 1 := rfl
  have e3 : (((if (PyData.shownAll xs).length == 1 then ",)" else ")" : String) : Str)).length ≤ 2 := by split <;> decide
  rw [e1]
  by_cases h : PyData.shownAll xs = []
  · rw [h] at e3 ⊢
    have : (Str.join ", " ([] : List Str)).length = 0 := rfl
    rw [this]
    omega
  · have := join_length_add _ h
    omega
theorem sh_list (xs : List W2.D) : (PyData.list xs).shown.length ≤ 2 + piled (PyData.shownAll xs) := by
  show (listText (PyData.shownAll xs)).length ≤ _
  unfold listText
  rw [strLen_append]
  have e1 : ((("]" : String) : Str)).length = 1 := rfl
  rw [e1]
  cases PyData.shownAll xs with
  | nil => decide
  | cons t r =>
    show (textFrom 1 ("[" ++ "" ++ t) r).length + 1 ≤ _
    rw [textFrom_length_pos r 1 _ (by decide), piled_cons, strLen_append]
    have e2 : (("[" : Str) ++ ((("" : String) : Str))).length = 1 := rfl
    rw [e2]
    omega
theorem piled_map {α : Type} {e : α → W2.D} {B : Nat} : ∀ {l : List α}, (∀ x ∈ l, (e x).shown.length ≤ B) → piled (PyData.shownAll (l.map e)) ≤ l.length * (B + 2)
  | [], _ => Nat.zero_le _
  | x :: r, h => by
    show piled ((e x).shown :: PyData.shownAll (r.map e)) ≤ _
    rw [piled_cons, List.length_cons, Nat.succ_mul]
    have h1 := h x List.mem_cons_self
    have h2 := piled_map (l := r) fun y hy => h y (List.mem_cons_of_mem _ hy)
    omega
theorem sh_int {i : Int} {B : Nat} (h : i.natAbs ≤ B) : (PyData.int i).shown.length ≤ B + 2 := by
  have := len_str_of_int i
  show (Str.ofString (toString i)).length ≤ _
  omega
theorem log_small {n : Nat} (h : n ≤ 1000000) : n.log2 < 1000 := by
  by_cases c : n = 0
  · subst c; decide
  · refine (Nat.log2_lt c).mpr (Nat.lt_of_le_of_lt h ?_)
    exact Nat.lt_of_lt_of_le (show 1000000 < 2 ^ 20 by decide) (Nat.pow_le_pow_right (by decide) (show 20 ≤ 1000 by decide))
theorem showAll_map {α : Type} {e : α → W2.D} : ∀ {l : List α}, (∀ x ∈ l, (e x).showable = true) → PyData.showableAll (l.map e) = true
  | [], _ => rfl
  | x :: r, h => by
    show ((e x).showable && PyData.showableAll (r.map e)) = true
    rw [h x List.mem_cons_self, showAll_map fun y hy => h y (List.mem_cons_of_mem _ hy)]; rfl
theorem show_int {i : Int} (h : i.natAbs ≤ 1000000) : (PyData.int i).showable = true := by
  show decide (i.natAbs.log2 < 1920) = true
  have := log_small h
  exact decide_eq_true (by omega)
def LotOk (l : List Int) : Prop := l.length ≤ 10 ∧ ∀ r ∈ l, r.natAbs ≤ 10
theorem sh_lot {l : List Int} (h : LotOk l) : (lotD l).shown.length ≤ 143 := by
  have h1 := sh_tuple (l.map PyData.int)
  have h2 := piled_map (e := PyData.int) (B := 12) (l := l) fun r hr => sh_int (h.2 r hr)
  have h3 := Nat.mul_le_mul_right (12 + 2) h.1
  show (PyData.tuple _).shown.length ≤ _
  omega
theorem show_lot {l : List Int} (h : LotOk l) : (lotD l).showable = true := showAll_map (e := PyData.int) fun r hr => show_int (Nat.le_trans (h.2 r hr) (by decide))
theorem sh_pr {p : LI} {B : Nat} (h : LotOk p.1) (hb : p.2.natAbs ≤ B) : (W2.prD p).shown.length ≤ B + 152 := by
  have h1 := sh_tuple [lotD p.1, .int p.2]
  have h2 : piled (PyData.shownAll [lotD p.1, .int p.2]) = ((lotD p.1).shown.length + 2) + (((PyData.int p.2).shown.length + 2) + 0) := by
    show piled [_, _] = _
    rw [piled_cons, piled_cons]; rfl
  have h3 := sh_lot h
  have h4 := sh_int hb
  show (PyData.tuple _).shown.length ≤ _
  omega
theorem show_pr {p : LI} (h : LotOk p.1) (hb : p.2.natAbs ≤ 1000000) : (W2.prD p).showable = true := by
  show ((lotD p.1).showable && ((PyData.int p.2).showable && true)) = true
  rw [show_lot h, show_int hb]; rfl
theorem reprOk_ofE {d : W2.D} (h1 : canE d = true) (h2 : d.showable = true) (h3 : d.depth ≤ 64) (h4 : d.shown.length ≤ 16777216) : reprOk d = true := by
  unfold reprOk
  rw [h1, h2, decide_eq_true h3, decide_eq_true h4]; rfl
theorem reprOk_of {d : W2.D} (h1 : d.canLay0 = true) (h2 : d.showable = true) (h3 : d.depth ≤ 64) (h4 : d.shown.length ≤ 16777216) : reprOk d = true := reprOk_ofE (canE_of d h1) h2 h3 h4
theorem repr_int {i : Int} (h : i.natAbs ≤ 1000000) : reprOk (.int i) = true := reprOk_of rfl (show_int h) (Nat.zero_le _) (by have := sh_int h; omega)
theorem repr_frame {n : Int} {roads : List (Int × Int)} (hn : n.natAbs ≤ 10) (hl : roads.length ≤ 100) (h : ∀ p ∈ roads, p.1.natAbs ≤ 10 ∧ p.2.natAbs ≤ 10) : reprOk (frD n roads) = true := by
  have lay_rd : ∀ p : Int × Int, (rdD p).canLay0 = true := fun _ => rfl
  have d_rd : ∀ p : Int × Int, (rdD p).depth ≤ 1 := fun _ => Nat.le_refl _
  refine reprOk_of ?_ ?_ ?_ ?_
  · show (true && (PyData.canLayAll0 (roads.map rdD) && true)) = true
    rw [layAll_map lay_rd]; rfl
  · show ((PyData.int n).showable && (PyData.showableAll (roads.map rdD) && true)) = true
    rw [show_int (Nat.le_trans hn (by decide)), showAll_map (e := rdD) fun p hp => ?_]
    · rfl
    · show ((PyData.int p.1).showable && ((PyData.int p.2).showable && true)) = true
      rw [show_int (Nat.le_trans (h p hp).1 (by decide)), show_int (Nat.le_trans (h p hp).2 (by decide))]; rfl
  · show max 0 (max (PyData.depthAll (roads.map rdD) + 1) 0) + 1 ≤ 64
    have := depthAll_map d_rd roads
    omega
  · have h1 := sh_tuple [.int n, .tuple (roads.map rdD)]
    have h2 : piled (PyData.shownAll [.int n, .tuple (roads.map rdD)]) = ((PyData.int n).shown.length + 2) + (((PyData.tuple (roads.map rdD)).shown.length + 2) + 0) := by
      show piled [_, _] = _
      rw [piled_cons, piled_cons]; rfl
    have h3 := sh_int hn
    have h4 := sh_tuple (roads.map rdD)
    have h5 := piled_map (e := rdD) (B := 31) (l := roads) fun p hp => by
      have a1 := sh_tuple [.int p.1, .int p.2]
      have a2 : piled (PyData.shownAll [.int p.1, .int p.2]) = ((PyData.int p.1).shown.length + 2) + (((PyData.int p.2).shown.length + 2) + 0) := by
        show piled [_, _] = _
        rw [piled_cons, piled_cons]; rfl
      have a3 := sh_int (h p hp).1
      have a4 := sh_int (h p hp).2
      show (PyData.tuple _).shown.length ≤ _
      omega
    have h6 := Nat.mul_le_mul_right (31 + 2) hl
    show (PyData.tuple _).shown.length ≤ _
    omega
theorem leL_is (p q : List Int) : leL p q = decide (p ≤ q) := by
  have h := congrFun (congrFun (dataLe_rows (fun x : List Int => x)) p) q
  rw [← h]
  rfl
theorem gNe_eq {x y : W2.D} {P : W2.D → Prop} (e : x = y) (h1 : eqOk y y = true) (h2 : PyData.eqv y y = true) (h : P (.bool false)) : gNe x y P := by
  subst e
  exact ⟨h1, by rw [h2]; exact h⟩
theorem gNe_str {x y : W2.D} {P : W2.D → Prop} (e : x = y) (h : P (.bool false)) : gNe (.str x.shown) (.str y.shown) P := by
  subst e
  exact gNe_eq rfl rfl (by show (x.shown == x.shown) = true; exact beq_self_eq_true _) h
theorem rangeD0 (n : Nat) : rangeD 0 n = (List.range n).map fun i : Nat => PyData.int (i : Int) := by
  unfold rangeD
  refine List.map_congr_left fun i _ => ?_
  rw [Int.zero_add]
theorem cutD_map {α : Type} (e : α → W2.D) (l : List α) (lo hi : Option Int) : ∃ l' : List α, W2.cutD (l.map e) lo hi = l'.map e ∧ (∀ x ∈ l', x ∈ l) ∧ l'.length ≤ l.length := by
  unfold W2.cutD
  rw [← List.map_drop, ← List.map_take]
  exact ⟨_, rfl, fun x hx => List.mem_of_mem_drop (List.mem_of_mem_take hx), by rw [List.length_take, List.length_drop]; omega⟩
end W2

set_option Elab.async false
set_option linter.all false
set_option maxRecDepth 100000
/-! W2AB: one of some, over any container (gen.py prints gIxA). -/
namespace W2
open PySem PySem.Spec PyProof.Rows L2 PySem.W
def wbOfA : WS := wRet (w2 gIxA (wB 1) (wFnS 0 1 wfPick (wCons (wCall gLen (wCons (wB 1) wNil)) wNil)))
theorem of_lawA {ds : List D} {Q : D → Prop} (hl : ds.length = 1) (h : wfOf ds Q) : wbOfA { nx := fun _ => Q .none, rt := Q } (startE ["source", "some"] (.src :: ds.map .fz)) := by
  obtain ⟨d, rfl⟩ : ∃ d, ds = [d] := by
    match ds, hl with
    | [d], _ => exact ⟨d, rfl⟩
  have go : ∀ (xs : List D) (P : D → Prop), xs ≠ [] → xs.length < 1073741824 → (∀ x ∈ xs, P x) → (xs.length : Int) < 1073741824 ∧ ∀ r : Int, 0 ≤ r → r < max 1 (xs.length : Int) → ∃ x, L2.atI xs r = some x ∧ P x := fun xs P ne lt h => by
    refine ⟨by omega, fun r h0 h1 => ?_⟩
    have pos : 0 < xs.length := by cases xs with | nil => exact absurd rfl ne | cons _ _ => exact Nat.succ_pos _
    have hr : r.toNat < xs.length := by omega
    refine ⟨xs[r.toNat], ?_, h _ (List.getElem_mem _)⟩
    unfold L2.atI ixN
    rw [if_pos h0, if_pos (by omega)]
    exact List.getElem?_eq_getElem hr
  cases d <;> first | exact h.elim | skip
  · rename_i xs
    obtain ⟨g1, g2⟩ := go xs Q h.1 h.2.1 h.2.2
    exact ⟨rfl, g1, fun r h0 h1 => g2 r h0 h1⟩
  · rename_i xs
    obtain ⟨g1, g2⟩ := go xs Q h.1 h.2.1 h.2.2
    exact ⟨rfl, g1, fun r h0 h1 => g2 r h0 h1⟩
end W2

set_option Elab.async false
set_option linter.all false
set_option maxRecDepth 100000
/-! W2AC: x <= y of ints or of tuples of ints. -/
namespace W2
open PySem PySem.Spec PyProof.Rows L2
/-- the answer of ns <= ms, tuples -/
def leTI (ns ms : List Int) : Bool := Ob.lexAt (fun j => decide (ns.getD j 0 = ms.getD j 0)) (fun j => decide (ns.getD j 0 ≤ ms.getD j 0)) (decide (ns.length ≤ ms.length)) 0 (min ns.length ms.length)
def gLeA : D → D → (D → Prop) → Prop
  | .tuple xs, .tuple ys, Q => ∃ ns ms : List Int, xs = ns.map .int ∧ ys = ms.map .int ∧ Q (.bool (leTI ns ms))
  | x, y, Q => gLeI x y Q
def rLeA (K : PySem.W.Frag) : R2 := fun x y H Q => rI0 (fun i j => .bl (decide (i ≤ j))) x y H Q ∨ rLeT K x y H Q
theorem op_leA {X : Cx} (K : PySem.W.Frag) (hK : X.K = K) (hu : X.A.units + 1 < cLine) : OpR X (compareOp .LtE) (rLeA K) := by
  subst hK
  exact OpR.or op_le (op_leT (by omega))
theorem rs_leA {K : PySem.W.Frag} : RSem K (rLeA K) gLeA := fun {sx F H x y dx dy Q R} b hx hy hg k => by
  have I0 : gLeI dx dy Q → rLeA K x y H R := fun h => .inl (rs_leI b hx hy h k)
  cases dx <;> first | exact I0 hg | skip
  cases dy <;> first | exact I0 hg | skip
  obtain ⟨ns, ms, rfl, rfl, q⟩ := hg
  obtain ⟨a, xs, rfl, h1, h2⟩ := hx.tupleH b.le
  obtain ⟨c, ys, rfl, h3, h4⟩ := hy.tupleH b.le
  obtain rfl := h2.intsV
  obtain rfl := h4.intsV
  exact .inr ⟨a, c, ns, ms, rfl, rfl, h1, h3, k.now b q (.bl _)⟩
end W2

set_option Elab.async false
set_option linter.all false
set_option maxRecDepth 100000
/-! W2AD: {k: v} with a tuple as its one key; a raise that is never met; a name of the module's top that holds an int. -/
namespace W2
open PySem PySem.Spec PyProof.Rows L2
section
variable {prog : Program} {w : World} {κ : Type} [DecidableEq κ] {knd : HeapKind prog w κ} {A : Around} {E : Value → Shared → Prop} {s : Shared}
theorem disp_keyed {env : Env} {keys : List (Option Expr)} {values : List Expr} {pos : Pos} {Q : Value → Shared → Prop} (room : knd.room A) (some : keys.all (·.isSome) = true) (same : keys.length = values.length) (ne : keys ≠ []) (few : keys.length ≤ 15)
    (h : wpAny (model prog w) A (evalPairs (pairTrees keys values env pos)) (fun vs t => ∃ ps, CarriesH knd t.heap vs ps ∧ t.heap.DictOfH knd s.heap.objs.size [] ∧
      ∀ g tk, g.DictOfH knd s.heap.objs.size (storedAllH [] ps) → Heap.SameBut s.heap.objs.size t.heap g → Q (.ref s.heap.objs.size) { t with heap := g, toks := tk }) E
      { s with heap := s.heap.push { cls := .type "dict", data := .dict #[] } }) : wpAny (model prog w) A (eval (.Dict keys values pos) env) Q E s := by
  have len := pairTrees_length keys values env pos some same
  have ne' : pairTrees keys values env pos ≠ [] := fun z => ne (List.length_eq_zero_iff.mp (by rw [← len, z]; rfl))
  have few' : (pairTrees keys values env pos).length ≤ 15 := by rw [len]; exact few
  rw [arm_eval_Dict, zip_pairTrees keys values env pos some same, dictDisplay_pairs _ ne' (by omega)]
  refine wpAny_bind (wpAny_standAt (wpAny_bind (wpAny_subDictH (knd := knd) (Q := fun d t => wpAny (model prog w) A (pure (Value.ref d)) Q E t) room few' ?_)))
  exact wpAny_mono h (fun vs t ⟨ps, c, m, q⟩ => ⟨ps, c, m, fun g tk x y => wpAny_pure (q g tk x y)⟩) fun _ _ z => z
end
/-- {k: v}, k a tuple of ints and texts -/
def tDispT (tk tv : TE) : TE := fun σ H Q => ∀ p, H p = none → tk σ (upd H p (.dT [])) fun x H1 => tv σ H1 fun y H2 => H2 p = some (.dT []) ∧ ∃ (is : List Int) (b : Addr), x = .ref b ∧ TupAt H2 b ((kI is).map kV) ∧ ∀ o u, (p == sysModules) = false → RelV y u → TObj o [(kI is, b, u)] → Q (.ref p) (upd H2 p (tdO p o))
section
variable {X : Cx} {pos : Pos} {k v : Expr} {tk tv : TE} {wk wv : WE}
theorem pe_dispT (hu : X.A.units + 1 < cLine) (hk : PE X k tk) (hv : PE X v tv) : PE X (.Dict [some k] [v] pos) (tDispT tk tv) := by
  refine ⟨fun pins s σ H Q I q => ?_⟩
  have hn := I.hok.fresh (Nat.le_refl s.heap.objs.size)
  have I1 := I.laid (a := s.heap.objs.size) (o := .dT []) (h' := s.heap.push { cls := .type "dict", data := .dict #[] }) (t' := s.toks) (fun _ _ q => Heap.get?_push_of_some _ q) (Nat.le_refl _) (dt_empty s.heap I.big)
  refine disp_keyed (knd := tupleKind (mixKind X.prog X.w)) (show X.A.units < cLine by omega) rfl rfl (fun z => nomatch z) (show 1 ≤ 15 by decide) ?_
  refine pairTrees_cons_walk (thn (hk.run pins _ σ _ _ I1 (q _ hn)) fun u s1 ⟨x, H1, I2, rx, q1⟩ => thn (hv.run pins s1 σ H1 _ I2 q1) fun w2 s2 ⟨y, H2, I3, ry, q2⟩ => pairTrees_nil_walk ?_)
  obtain ⟨hp, is, b, rfl, hb, q3⟩ := q2
  cases rx
  obtain ⟨z, hd, xs, kt, dd⟩ := dt_of I3.hok hp
  cases kt
  refine ⟨[(kI is, b, w2)], ⟨rfl, rfl, hb.key I3.hok, trivial⟩, dd, fun g tok dd' hs => ?_⟩
  obtain ⟨o, he, ob⟩ := TObj.mk' (xs := [(kI is, b, w2)]) (by show 1 ≤ _; rw [sizeLine_eq]; decide) (fun x hx => by rw [List.mem_singleton] at hx; subst hx; exact ⟨is, rfl⟩) dd'
  exact ⟨.ref s.heap.objs.size, _, d_write I3 (by rw [hp]; exact True.intro) hs ⟨o, he⟩ (ext_ok he), rfl, q3 o w2 hd ry ob⟩
def wDispT (wk wv : WE) : WE := fun η Q => wk η fun k => wv η fun v => keyOk k = true ∧ (∃ ds, k = .tuple ds) ∧ Q (.dict [(k, v)])
theorem dd_dispT (hu : X.A.units + 1 < cLine) (hk : DE X k tk wk) (hv : DE X v tv wv) : DD X (.Dict [some k] [v] pos) (tDispT tk tv) (wDispT wk wv) :=
  ⟨pe_dispT hu hk.pe hv.pe, fun {sx H0 F0 F σ H η Q R} r hw kk p hp => by
    have e0 := Ext2.newF (o := .dT []) r.base hp
    have nx : ¬ inSx sx p := fun z => by obtain ⟨o, q⟩ := r.base.ok.there z; rw [hp] at q; cases q
    have hF : F p = none := by
      cases z : F p with
      | none => rfl
      | some o => rw [r.base.le _ _ z] at hp; cases hp
    refine hk.sem (r.ext e0) hw fun dk x F1 H1 q1 e1 h1 => hv.sem ((r.ext e0).ext e1) q1 fun dv y F2 H2 q2 e2 h2 => ?_
    obtain ⟨ok, ⟨ds, ed⟩, q3⟩ := q2
    have e12 := e1.trans e2
    have hb := e12.sH _ _ (upd_same (H := H) (a := p) (o := .dT [])) nx
    have hF2 : F2 p = none := by
      cases z : F2 p with
      | none => rfl
      | some u =>
        rcases e12.fr _ _ z with y | y | ⟨xs, rfl⟩
        · rw [hF] at y; cases y
        · rw [upd_same] at y; cases y
        · have y := e12.le _ _ z
          rw [hb] at y; cases y
    have hx := h1.mono e2.sF
    rcases hx.keyAt ok with ⟨i, ei, _⟩ | ⟨is, b, ek, rfl, hkb⟩
    · rw [ed] at ei
      cases i <;> cases ei
    refine ⟨hb, is, b, rfl, hkb.mono e12.le, fun ob u hs ru to => ?_⟩
    have e3 := e0.trans e12
    refine kk _ p F2 _ q3 ⟨e3.sF, fun b o z n => ?_, fun b o z => ?_, e3.fr, ?_⟩ (.inr ⟨ob, [(kI is, y)], upd_same, ⟨hs, _, to, .cons ⟨rfl, hkb, ru⟩ .nil⟩, by rw [ek]; exact .cons h2 .nil⟩) hF2 hp
    · rw [upd_ne (ne_of_none z hp)]; exact e3.sH _ _ z n
    · rw [upd_ne (ne_of_none z hF2)]; exact e3.le _ _ z
    · cases sx with
      | none => trivial
      | some pp =>
        obtain ⟨a1, b1⟩ := pp
        obtain ⟨n, cs, l, m, t, z1, z2, z⟩ := e3.ok
        exact ⟨n, cs, l, m, t, by rw [upd_ne (fun z => nx (.inl z.symm))]; exact z1, by rw [upd_ne (fun z => nx (.inr z.symm))]; exact z2, z⟩⟩
end
/-- a statement that is never met -/
def tNo : TS := fun _ _ _ => False
def wNo : WS := fun _ _ => False
theorem ds_no {X : Cx} {st : Stmt} : DS X st tNo wNo := ⟨⟨fun _ _ _ _ _ _ h => h.elim⟩, fun {sx H0 F0 F σ H η D R} r hw _ => hw.elim⟩
/-- an int that the module's top has named -/
theorem de_topI {X : Cx} {x : Str} {i : Int} {pos : Pos} (hg : Gl X x) (hm : ∃ t, X.mg x = some (.int i t)) (hd : (x == ("__debug__" : Str)) = false := by decide) : DE X (.Name x pos) (tC (.int i)) (wC (.int i)) := by
  obtain ⟨t, ht⟩ := hm
  exact de_glob hg ht ⟨t, rfl⟩ (fun _ => .int i) hd
end W2

set_option Elab.async false
set_option linter.all false
set_option maxRecDepth 100000
set_option maxHeartbeats 4000000
/-! W2AE: a tuple taken some times, once or not at all too. -/
namespace W2
open PySem PySem.Spec PyProof.Rows L2
open PySem.AutoSeq1 (wpAny_loadPart')
theorem tup_mul1 (p : Addr) (its : Array Value) (m : Nat) (dc : Option Addr) (ss : Array (Option Value)) (tk : Tok) :
    Meets (Builtin.«tuple.__mul__» ⟨[.ref p, .int 1 tk], []⟩) (fun _ R st => st.heap.get? p = some { cls := .type "tuple", dict := dc, data := .seq its m, slots := ss } ∧ R (.ok (.ret (.ref p))) st) :=
  .of_wp fun prog w A R st hh => by
    obtain ⟨hp, g, d, tt, os⟩ := st
    obtain ⟨hl, hh⟩ := hh
    have f1 := AutoSeq1.idx_int
    wp_walk using wpAny_loadPart' hl
    exact ⟨_, rfl, hh⟩
theorem tup_mul0 (p : Addr) (its : Array Value) (m : Nat) (dc : Option Addr) (ss : Array (Option Value)) (k : Int) (tk : Tok) (h1 : ¬ its.isEmpty = true) (h2 : k ≤ 0) (h3 : -1000 ≤ k) :
    Meets (Builtin.«tuple.__mul__» ⟨[.ref p, .int k tk], []⟩) (fun _ R st => st.heap.get? p = some { cls := .type "tuple", dict := dc, data := .seq its m, slots := ss } ∧
      R (.ok (.ret (Value.ref st.heap.objs.size))) { st with heap := st.heap.push { cls := Value.type "tuple", data := Data.seq #[] }, toks := st.toks }) :=
  .of_wp fun prog w A R st hh => by
    obtain ⟨hp, g, d, tt, os⟩ := st
    obtain ⟨hl, hh⟩ := hh
    have f1 := AutoSeq1.idx_int
    wp_walk using wpAny_loadPart' hl
    have c0 : ¬ (decide (k < -2 ^ 63) || decide (k ≥ 2 ^ 63)) = true := fun z => by
      rw [Bool.or_eq_true, decide_eq_true_eq, decide_eq_true_eq] at z
      omega
    have c1 : ¬ (its.isEmpty || k == 1) = true := fun z => by
      rw [Bool.or_eq_true, beq_iff_eq] at z
      rcases z with z | z
      · exact h1 z
      · omega
    refine wpAny_ite_false (decide_eq_false c0) ?_
    wp_walk using wpAny_loadPart' hl
    refine wpAny_ite_false (decide_eq_false c1) ?_
    wp_walk using wpAny_loadPart' hl
    exact ⟨_, rfl, hh⟩
def rRepA (K : PySem.W.Frag) : R2 := fun x y H Q => ∃ (l : Addr) (k : Int) (xs : List V), x = .ref l ∧ y = .int k ∧ SqT K H l xs ∧ xs ≠ [] ∧ ((2 ≤ k ∧ k ≤ 1000 ∧ xs.length ≤ 1000 ∧ mkT H (List.replicate k.toNat xs).flatten Q) ∨ (k = 1 ∧ Q (.ref l) H) ∨ (-1000 ≤ k ∧ k ≤ 0 ∧ mkT H [] Q))
theorem op_repA {X : Cx} (K : PySem.W.Frag) (hK : X.K = K) : OpR X (binaryOp .Mult) (rRepA K) := by
  subst hK
  intro pins s σ H x y v u Q I rx ry h
  obtain ⟨l, k, xs, rfl, rfl, hT, ne, h⟩ := h
  cases rx
  obtain ⟨t, rfl⟩ := ry
  obtain ⟨its, rv, ⟨⟨cls, dct, dat, sl⟩, ho, hc, n, hd⟩, hz⟩ := I.tuple hT
  simp only at hc hd
  subst hc hd
  have ne' : its ≠ [] := fun z => ne (List.eq_nil_of_length_eq_zero (by rw [rv.length, z]; rfl))
  have ty : s.TypeIs (.ref l) "tuple" := ⟨_, ho, rfl⟩
  have go := fun (N : Value → Shared → Prop) (hN : wpAny (model X.prog X.w) X.A (call (.builtin "tuple.__mul__") [.ref l, .int k t]) N X.xe s) =>
    wpAny_binaryOp_repeat_ref (E := X.xe) (Q := N) (T := "tuple") (U := "int") (by decide) ty (fun z => typeIs_int z k t) noFill_tuple_mul F.fills_int_mul F.slot_int_rmul
      repeat_tuple F.slot_int_index.lookup (call_meets F.slot_int_rmul (typeIs_int s k t) F.entry_int_rmul (F.args_int_rmul_2 _ _) (int_rmul_tuple k t l its.toArray n dct sl) ⟨ho, rfl, ty, hN⟩)
  rcases h with ⟨h1, h2, hl, q⟩ | ⟨rfl, q⟩ | ⟨h1, h2, q⟩
  · have sz : its.toArray.size = xs.length := by rw [List.size_toArray, rv.length]
    have em : its.toArray.isEmpty = false := by cases its with | nil => exact absurd rfl ne' | cons a b => rfl
    have bnd : (xs.length : Int) * k ≤ 1000000 := by
      have a1 : (xs.length : Int) * k ≤ 1000 * k := Int.mul_le_mul_of_nonneg_right (by omega) (by omega)
      omega
    have fl : (List.replicate k.toNat its).flatten.length ≤ sizeLine := by
      rw [lm_len_rep_flat, ← rv.length, sizeLine_eq]
      have a1 : k.toNat * xs.length ≤ 1000 * 1000 := Nat.mul_le_mul (by omega) hl
      omega
    have c0 : (decide (k < -(2 ^ 63)) || decide (k ≥ 2 ^ 63)) = false := by rw [Bool.or_eq_false_iff, decide_eq_false_iff_not, decide_eq_false_iff_not]; omega
    have c1 : (its.toArray.isEmpty || k == 1) = false := by rw [em, Bool.false_or, beq_eq_false_iff_ne]; omega
    have c2 : (decide (k ≤ 0) || its.toArray.isEmpty) = false := by rw [em, Bool.or_false, decide_eq_false_iff_not]; omega
    have c4 : Builtin.Tuple.tupleTooMany (((its.toArray.size : Nat) : Int) * k) = false := by unfold Builtin.Tuple.tupleTooMany; rw [sz, sizeLine_eq, decide_eq_false_iff_not]; omega
    refine go _ (call_meets F.slot_tuple_mul ty F.entry_tuple_mul (F.args_tuple_mul_2 _ _) (tuple_mulW l its.toArray n dct sl k t c0 c1 c2 (by rw [sz]; omega) c4 (by rw [size_rep, List.size_toArray]; exact fl)) ⟨ho, ?_⟩)
    rw [size_rep]
    exact made I (rv.rep k.toNat) (by rw [(rv.rep k.toNat).length]; exact fl) q s.toks
  · exact go _ (call_meets F.slot_tuple_mul ty F.entry_tuple_mul (F.args_tuple_mul_2 _ _) (tup_mul1 l its.toArray n dct sl t) ⟨ho, .ref l, H, I, rfl, q⟩)
  · refine go _ (call_meets F.slot_tuple_mul ty F.entry_tuple_mul (F.args_tuple_mul_2 _ _) (tup_mul0 l its.toArray n dct sl k t (fun z => ne' (by simpa using z)) h2 h1) ⟨ho, ?_⟩)
    exact made I (its := []) .nil (Nat.zero_le _) q s.toks
/-- a tuple taken k times -/
def gRepT : D → D → (D → Prop) → Prop
  | .tuple ds, .int k, Q => ds ≠ [] ∧ ds.length ≤ 1000 ∧ -1000 ≤ k ∧ k ≤ 1000 ∧ Q (.tuple (List.replicate k.toNat ds).flatten)
  | _, _, _ => False
theorem DtL.rep {K : PySem.W.Frag} {F : Hp} {vs : List V} {ds : List D} (h : DtL K F vs ds) : ∀ n : Nat, DtL K F (List.replicate n vs).flatten (List.replicate n ds).flatten
  | 0 => .nil
  | n + 1 => by
    rw [List.replicate_succ, List.replicate_succ, List.flatten_cons, List.flatten_cons]
    exact h.append (DtL.rep h n)
theorem rs_repT {K : PySem.W.Frag} : RSem K (rRepA K) gRepT := fun {sx F H x y dx dy Q R} b hx hy hg k => by
  cases dx <;> cases dy <;> first | exact hg.elim | skip
  rename_i ds i
  obtain ⟨ne, hl, h0, h1, q⟩ := hg
  cases hy.int
  obtain ⟨a, xs, rfl, e1, e2⟩ := hx.tuple
  have sq : SqT K H a xs := (e1.mono b.le).sq
  have nx : xs ≠ [] := fun z => ne (e2.nil_iff.mp z)
  by_cases c : 2 ≤ i
  · exact ⟨a, i, xs, rfl, rfl, sq, nx, .inl ⟨c, h1, by rw [e2.length]; exact hl, k.tup b q (e2.rep _)⟩⟩
  · by_cases c1 : i = 1
    · subst c1
      refine ⟨a, 1, xs, rfl, rfl, sq, nx, .inr (.inl ⟨rfl, k.now b (d := .tuple ds) ?_ (.tup e1 e2)⟩)⟩
      have e : (List.replicate (1 : Int).toNat ds).flatten = ds := by
        show (List.replicate 1 ds).flatten = ds
        simp
      rw [e] at q
      exact q
    · have z : i.toNat = 0 := by omega
      rw [z] at q
      exact ⟨a, i, xs, rfl, rfl, sq, nx, .inr (.inr ⟨h0, by omega, k.tup b q .nil⟩)⟩
end W2

set_option Elab.async false
set_option linter.all false
set_option maxRecDepth 100000
/-! W2AF: len of a list, a tuple, a text, a dict. -/
namespace W2
open PySem PySem.Spec PyProof.Rows L2
def gLenX : List D → (D → Prop) → Prop
  | [.dict es], Q => Q (.int es.length)
  | ds, Q => gLen ds Q
def rLenX (K : PySem.W.Frag) : List V → Hp → VK → Prop := fun xs H Q => rLenA K xs H Q ∨ ∃ a, xs = [.ref a] ∧ ((∃ kvs : List (Key × V), Rd H a (.dK kvs) ∧ Q (.int ((kvs.length : Nat) : Int)) H) ∨ ∃ (o : Obj) (kvs : List (List Key × V)), RdT H a o ∧ TD H a o kvs ∧ Q (.int ((kvs.length : Nat) : Int)) H)
theorem cr_lenD {X : Cx} : CallR X (.builtin "len") (fun xs H Q => ∃ a, xs = [.ref a] ∧ ((∃ kvs : List (Key × V), Rd H a (.dK kvs) ∧ Q (.int ((kvs.length : Nat) : Int)) H) ∨ ∃ (o : Obj) (kvs : List (List Key × V)), RdT H a o ∧ TD H a o kvs ∧ Q (.int ((kvs.length : Nat) : Int)) H)) := by
  intro pins s σ H xs us Q I r h
  obtain ⟨a, rfl, h⟩ := h
  obtain ⟨u, rfl, rx⟩ := vals1 r
  cases (show u = Value.ref a from rx)
  rcases h with ⟨kvs, hd, q⟩ | ⟨o, kvs, rd, td, q⟩
  · exact d_len I hd fun t s' I' => ⟨.int _, H, I', ⟨_, rfl⟩, q⟩
  · obtain ⟨hs, ys, rel, z, dd⟩ := td.of (P := X.prog) (w := X.w) rd I.hok
    have hl : kvs.length = ys.length := Paired.length rel
    refine call_len_dictH hs dd (by rw [sizeLine_eq] at z; omega) ?_
    rw [← hl]
    exact ⟨.int ((kvs.length : Nat) : Int), H, I.tok _, ⟨_, rfl⟩, q⟩
theorem cr_lenX {X : Cx} (K : PySem.W.Frag) (hK : X.K = K) : CallR X (.builtin "len") (rLenX K) := by
  subst hK
  exact CallR.or cr_len cr_lenD
theorem DtK.lenE {K : PySem.W.Frag} {F : Hp} : ∀ {kvs : List (Key × V)} {es : List (D × D)}, DtK K F kvs es → kvs.length = es.length
  | _, _, .nil => rfl
  | _, _, .cons _ t => congrArg (· + 1) t.lenE
theorem DtT.lenE {K : PySem.W.Frag} {F : Hp} : ∀ {kvs : List (List Key × V)} {es : List (D × D)}, DtT K F kvs es → kvs.length = es.length
  | _, _, .nil => rfl
  | _, _, .cons _ t => congrArg (· + 1) t.lenE
theorem cs_lenX {K : PySem.W.Frag} : CSem K (rLenX K) gLenX := fun {sx F H vs ds Q R} b h hg k => by
  unfold gLenX at hg
  split at hg
  · obtain ⟨v, rfl, h1⟩ := Nws.one h
    obtain ⟨a, rfl, hd⟩ := h1.dict b.le
    refine .inr ⟨a, rfl, ?_⟩
    rcases hd with ⟨kvs, rd, hd⟩ | ⟨o, kvs, rd, td, hd⟩
    · exact .inl ⟨kvs, rd, by rw [hd.lenE]; exact k.now b hg (.int _)⟩
    · exact .inr ⟨o, kvs, rd, td.mono b.le, by rw [hd.lenE]; exact k.now b hg (.int _)⟩
  · exact .inl (cs_len b h hg k)
end W2

set_option Elab.async false
set_option linter.all false
set_option maxRecDepth 100000
/-! W2AG: one of some (gen.py prints gIxA, gLenX). -/
namespace W2
open PySem PySem.Spec PyProof.Rows L2 PySem.W
def wbOfX : WS := wRet (w2 gIxA (wB 1) (wFnS 0 1 wfPick (wCons (wCall gLenX (wCons (wB 1) wNil)) wNil)))
theorem of_lawX {ds : List D} {Q : D → Prop} (hl : ds.length = 1) (h : wfOf ds Q) : wbOfX { nx := fun _ => Q .none, rt := Q } (startE ["source", "some"] (.src :: ds.map .fz)) := by
  obtain ⟨d, rfl⟩ : ∃ d, ds = [d] := by
    match ds, hl with
    | [d], _ => exact ⟨d, rfl⟩
  have go : ∀ (xs : List D) (P : D → Prop), xs ≠ [] → xs.length < 1073741824 → (∀ x ∈ xs, P x) → (xs.length : Int) < 1073741824 ∧ ∀ r : Int, 0 ≤ r → r < max 1 (xs.length : Int) → ∃ x, L2.atI xs r = some x ∧ P x := fun xs P ne lt h => by
    refine ⟨by omega, fun r h0 h1 => ?_⟩
    have pos : 0 < xs.length := by cases xs with | nil => exact absurd rfl ne | cons _ _ => exact Nat.succ_pos _
    have hr : r.toNat < xs.length := by omega
    refine ⟨xs[r.toNat], ?_, h _ (List.getElem_mem _)⟩
    unfold L2.atI ixN
    rw [if_pos h0, if_pos (by omega)]
    exact List.getElem?_eq_getElem hr
  cases d <;> first | exact h.elim | skip
  · rename_i xs
    obtain ⟨g1, g2⟩ := go xs Q h.1 h.2.1 h.2.2
    exact ⟨rfl, g1, fun r h0 h1 => g2 r h0 h1⟩
  · rename_i xs
    obtain ⟨g1, g2⟩ := go xs Q h.1 h.2.1 h.2.2
    exact ⟨rfl, g1, fun r h0 h1 => g2 r h0 h1⟩
/-- an int that the module's top has named -/
theorem top_int {K : PySem.W.Frag} {h : Heap} {mg : Str → Option Value} {x : Str} {i : Int} {t : Tok} (X : K.In h) (G : h.Ns mainGlobals mg) (e : PySem.W.nsIn K mainGlobals x = some (some (.int i t))) : ∃ t, mg x = some (.int i t) := ⟨t, PySem.W.mg_of X G e⟩
end W2

set_option Elab.async false
set_option linter.all false
set_option maxRecDepth 100000
set_option maxHeartbeats 2000000
/-! W2AH: zip(x, y, strict=True) of two lists or tuples of one length, in any mix: at the model's level. -/
namespace W2
open PySem
abbrev ZipS (h : Heap) (q ti to : Addr) (v : Value) : Prop := h.get? q = some { cls := .type "zip", dict := none, data := .fields #[v, .bool false, .bool true, .ref ti, .ref to], slots := #[] }
section
variable {prog : Program} {w : World} {A : Around} {E : Value → Shared → Prop} {s : Shared}
/-- an item drawn, or the end told -/
theorem next_some {it : Addr} {fp : List Addr} {n i : Nat} {P : Nat → Value → Prop} {St : Nat → Heap → Prop} {Q : Option Value → Shared → Prop} (D : Draws prog w A it fp n P St) (lt : i < n) (st : St i s.heap)
    (k : ∀ x g tk, P i x → St (i + 1) g → Heap.SameBut it s.heap g → Q (some x) { s with heap := g, toks := tk }) : wpAny (model prog w) A (Builtin.SmallTypes.nextOrEnd (.ref it)) Q E s := by
  unfold Builtin.SmallTypes.nextOrEnd
  exact wpAny_bind (wpAny_attempt (D.item i s _ _ lt st fun x g tk hx hs hb => wpAny_pure (k x g tk hx hs hb)))
theorem next_none {it : Addr} {fp : List Addr} {n : Nat} {P : Nat → Value → Prop} {St : Nat → Heap → Prop} {Q : Option Value → Shared → Prop} (D : Draws prog w A it fp n P St) (st : St n s.heap)
    (k : ∀ g, Heap.ExtBut it s.heap g → Q none { s with heap := g }) : wpAny (model prog w) A (Builtin.SmallTypes.nextOrEnd (.ref it)) Q E s := by
  unfold Builtin.SmallTypes.nextOrEnd
  refine wpAny_bind (wpAny_attempt (D.done s _ _ st fun g e hb ⟨o, ho, hc⟩ => ?_))
  exact wpAny_bind (wpAny_isInstance (T := "StopIteration") (b := true) ⟨o, ho, hc⟩ isSubtype_stop (wpAny_pure (k g hb)))
variable {q ti to i1 i2 : Addr} {fp1 fp2 : List Addr} {n1 n2 i : Nat} {P1 P2 : Nat → Value → Prop} {St1 St2 : Nat → Heap → Prop} {u1 u2 : Value}
theorem zs_item {Q : Value → Shared → Prop} (S : ZipSep2 q ti to i1 i2 fp1 fp2) (D1 : Draws prog w A i1 fp1 n1 P1 St1) (D2 : Draws prog w A i2 fp2 n2 P2 St2) (hz : ZipS s.heap q ti to .none) (hi : IsTupOf2 s.heap ti (.ref i1) (.ref i2)) (ho : IsTupOf2 s.heap to u1 u2)
    (c1 : St1 i s.heap) (c2 : St2 i s.heap) (l1 : i < n1) (l2 : i < n2)
    (k : ∀ x y g tk, P1 i x → P2 i y → ZipS g q ti to (rawInt s.heap.objs.size) → IsTupOf2 g to x y → St1 (i + 1) g → St2 (i + 1) g → IsTupOf2 g s.heap.objs.size x y → g.objs.size = s.heap.objs.size + 1 →
      (∀ c o, c ≠ q → c ≠ to → c ≠ i1 → c ≠ i2 → s.heap.get? c = some o → g.get? c = some o) → Q (.ref s.heap.objs.size) { s with heap := g, toks := tk }) :
    wpAny (model prog w) A (Builtin.«zip.__next__» ⟨[.ref q], []⟩) (fun fin t => ∃ v, fin = .done (.ret v) ∧ Q v t) E s := by
  obtain ⟨h0, gn, dr, t0, os⟩ := s
  show wpAny _ _ (field (.ref q) 2 >>= _) _ _ _; refine wpAny_bind (wpAny_field hz rfl (x := .bool true) rfl ?_)
  show wpAny _ _ (field (.ref q) 3 >>= _) _ _ _; refine wpAny_bind (wpAny_field hz rfl (x := .ref ti) rfl (wpAny_bind (wpAny_seqItems hi rfl ?_)))
  show wpAny _ _ (Builtin.SmallTypes.ownedTupleIsFree (.ref q) >>= _) _ _ _; refine wpAny_bind ?_; unfold Builtin.SmallTypes.ownedTupleIsFree
  refine wpAny_bind (wpAny_field hz rfl (x := .none) rfl (wpAny_pure ?_)); simp only [if_true]
  refine wpAny_bind (wpAny_rule (wpAny_bind (wpAny_field hz rfl (x := .ref to) rfl (wpAny_bind (wpAny_setField_rec hz (by simp) fun a0 z0 b0 => ?_)))))
  replace z0 : ZipS a0 q ti to .ellipsis := z0; replace b0 : Heap.SameBut q h0 a0 := b0
  refine wpAny_bind ?_; simp only [List.zipIdx_cons, List.zipIdx_nil, List.forIn_cons, List.forIn_nil]
  refine wpAny_bind (wpAny_bind (wpAny_onRaise ?_)); show wpAny _ _ (Builtin.SmallTypes.nextOrEnd (.ref i1)) _ _ ⟨a0, gn, dr, t0, os⟩
  refine next_some D1 l1 (D1.over c1 b0 S.zf1) fun x p1 k1 hx e1 s1 => ?_; replace s1 : Heap.SameBut i1 a0 p1 := s1
  have o1 : IsTupOf2 p1 to u1 u2 := s1.extBut _ _ S.Ti1 (b0.extBut _ _ S.TOz ho)
  refine wpAny_bind (wpAny_seqItems (s := ⟨p1, gn, dr, k1, os⟩) o1 rfl (wpAny_bind (updateSeq_IsTupOf2 (s := ⟨p1, gn, dr, k1, os⟩) o1 fun a1 t1 b1 => ?_)))
  replace t1 : IsTupOf2 a1 to x u2 := t1; replace b1 : Heap.SameBut to p1 a1 := b1
  refine wpAny_bind (wpAny_letGo (wpAny_pure (wpAny_bind (wpAny_bind (wpAny_onRaise ?_))))); show wpAny _ _ (Builtin.SmallTypes.nextOrEnd (.ref i2)) _ _ ⟨a1, gn, dr, k1, os⟩
  refine next_some D2 l2 (D2.over (D2.over (D2.over c2 b0 S.zf2) s1 S.sep1_2) b1 S.Tf2) fun y p2 k2 hy e2 s2 => ?_; replace s2 : Heap.SameBut i2 a1 p2 := s2
  have o2 : IsTupOf2 p2 to x u2 := s2.extBut _ _ S.Ti2 t1
  refine wpAny_bind (wpAny_seqItems (s := ⟨p2, gn, dr, k2, os⟩) o2 rfl (wpAny_bind (updateSeq_IsTupOf2 (s := ⟨p2, gn, dr, k2, os⟩) o2 fun a2 t2 b2 => ?_)))
  replace t2 : IsTupOf2 a2 to x y := t2; replace b2 : Heap.SameBut to p2 a2 := b2
  refine wpAny_bind (wpAny_letGo (wpAny_pure (wpAny_pure (wpAny_bind (wpAny_seqItems (s := ⟨a2, gn, dr, k2, os⟩) t2 rfl (wpAny_bind (wpAny_newTuple ?_)))))))
  have sz : a2.objs.size = h0.objs.size := by rw [b2.1, s2.1, b1.1, s1.1, b0.1]
  have zz : ZipS a2 q ti to .ellipsis := b2.extBut _ _ S.TOz.symm (s2.extBut _ _ S.zi2 (b1.extBut _ _ S.TOz.symm (s1.extBut _ _ S.zi1 z0)))
  have kk : ∀ c o, c ≠ q → c ≠ to → c ≠ i1 → c ≠ i2 → h0.get? c = some o → a2.get? c = some o := fun c o x1 x2 x3 x4 e => b2.extBut _ _ x2 (s2.extBut _ _ x4 (b1.extBut _ _ x2 (s1.extBut _ _ x3 (b0.extBut _ _ x1 e))))
  have j1 : St1 (i + 1) a2 := D1.over (D1.over (D1.over e1 b1 S.Tf1) s2 S.sep2_1) b2 S.Tf1
  have j2 : St2 (i + 1) a2 := D2.over e2 b2 S.Tf2
  have zl : q < a2.objs.size := Heap.lt_size zz
  show wpAny _ _ (Builtin.SmallTypes.ownedTupleHandOut (.ref q) (.ref a2.objs.size) >>= _) _ _ ⟨a2.push { cls := .type "tuple", data := .seq #[x, y] }, gn, dr, k2, os⟩
  refine wpAny_bind ?_; unfold Builtin.SmallTypes.ownedTupleHandOut
  have z6 : ZipS (a2.push { cls := .type "tuple", data := .seq #[x, y] }) q ti to .ellipsis := Heap.get?_push_of_some _ zz
  refine wpAny_bind (wpAny_setField_rec z6 (by simp) fun a7 z7 b7 => ?_); replace z7 : ZipS a7 q ti to (rawInt a2.objs.size) := z7
  refine wpAny_setField_rec z7 (by simp) fun a8 z8 b8 => ?_; replace z8 : ZipS a8 q ti to (rawInt a2.objs.size) := z8
  replace b7 : Heap.SameBut q (a2.push { cls := .type "tuple", data := .seq #[x, y] }) a7 := b7; replace b8 : Heap.SameBut q a7 a8 := b8
  have up : ∀ c o, c ≠ q → a2.get? c = some o → a8.get? c = some o := fun c o x1 e => b8.extBut _ _ x1 (b7.extBut _ _ x1 (Heap.get?_push_of_some _ e))
  have t8 : IsTupOf2 a8 a2.objs.size x y := b8.extBut _ _ (Nat.ne_of_gt zl) (b7.extBut _ _ (Nat.ne_of_gt zl) (Heap.get?_push_size _ rfl))
  have s8 : a8.objs.size = a2.objs.size + 1 := by rw [b8.1, b7.1, Heap.size_push]
  rw [sz] at z8 t8 s8
  refine wpAny_pure ⟨_, rfl, ?_⟩; show Q (.ref a2.objs.size) ⟨a8, gn, dr, k2, os⟩; rw [sz]
  exact k x y a8 k2 hx hy z8 (up _ _ S.TOz t2) (D1.frame _ _ _ j1 fun b hb o e => up b o (fun z => S.zf1 (z ▸ hb)) e) (D2.frame _ _ _ j2 fun b hb o e => up b o (fun z => S.zf2 (z ▸ hb)) e) t8 s8 fun c o x1 x2 x3 x4 e => up c o x1 (kk c o x1 x2 x3 x4 e)
theorem zs_end {Q : Fin → Shared → Prop} (hh : A.handled = none) (S : ZipSep2 q ti to i1 i2 fp1 fp2) (D1 : Draws prog w A i1 fp1 n1 P1 St1) (D2 : Draws prog w A i2 fp2 n1 P2 St2) (hz : ZipS s.heap q ti to .none) (hi : IsTupOf2 s.heap ti (.ref i1) (.ref i2)) (ho : IsTupOf2 s.heap to u1 u2)
    (c1 : St1 n1 s.heap) (c2 : St2 n1 s.heap)
    (k : ∀ g tk e, (∀ c o, c ≠ q → c ≠ to → c ≠ i1 → c ≠ i2 → s.heap.get? c = some o → g.get? c = some o) → (∃ o, g.get? e = some o ∧ o.cls = .type "StopIteration") → E (.ref e) { s with heap := g, toks := tk }) :
    wpAny (model prog w) A (Builtin.«zip.__next__» ⟨[.ref q], []⟩) Q E s := by
  obtain ⟨h0, gn, dr, t0, os⟩ := s
  show wpAny _ _ (field (.ref q) 2 >>= _) _ _ _; refine wpAny_bind (wpAny_field hz rfl (x := .bool true) rfl ?_)
  show wpAny _ _ (field (.ref q) 3 >>= _) _ _ _; refine wpAny_bind (wpAny_field hz rfl (x := .ref ti) rfl (wpAny_bind (wpAny_seqItems hi rfl ?_)))
  show wpAny _ _ (Builtin.SmallTypes.ownedTupleIsFree (.ref q) >>= _) _ _ _; refine wpAny_bind ?_; unfold Builtin.SmallTypes.ownedTupleIsFree
  refine wpAny_bind (wpAny_field hz rfl (x := .none) rfl (wpAny_pure ?_)); simp only [if_true]
  refine wpAny_bind (wpAny_rule (wpAny_bind (wpAny_field hz rfl (x := .ref to) rfl (wpAny_bind (wpAny_setField_rec hz (by simp) fun a0 z0 b0 => ?_)))))
  replace z0 : ZipS a0 q ti to .ellipsis := z0; replace b0 : Heap.SameBut q h0 a0 := b0
  refine wpAny_bind ?_; simp only [List.zipIdx_cons, List.zipIdx_nil, List.forIn_cons, List.forIn_nil]
  refine wpAny_bind (wpAny_bind (wpAny_onRaise ?_)); show wpAny _ _ (Builtin.SmallTypes.nextOrEnd (.ref i1)) _ _ ⟨a0, gn, dr, t0, os⟩
  refine next_none D1 (D1.over c1 b0 S.zf1) fun p1 s1 => ?_; replace s1 : Heap.ExtBut i1 a0 p1 := s1
  have z1 : ZipS p1 q ti to .ellipsis := s1 _ _ S.zi1 z0
  refine wpAny_bind (wpAny_setField_rec (s := ⟨p1, gn, dr, t0, os⟩) z1 (by simp) fun a1 z2 b1 => ?_); replace b1 : Heap.SameBut q p1 a1 := b1
  refine wpAny_bind ?_
  have d1 : St2 n1 p1 := D2.frame _ _ _ (D2.over c2 b0 S.zf2) fun b hb o e => s1 b o (fun z => S.sep1_2 (z ▸ hb)) e
  refine wpAny_bind ?_; show wpAny _ _ (forIn [(Value.ref i2, 1)] PUnit.unit _) _ _ _; rw [List.forIn_cons]
  refine wpAny_bind (wpAny_bind (next_none D2 (s := ⟨a1, gn, dr, t0, os⟩) (D2.over d1 b1 S.zf2) fun p2 s2 => ?_)); replace s2 : Heap.ExtBut i2 a1 p2 := s2
  show wpAny _ _ (pure (ForInStep.yield PUnit.unit)) _ _ _; refine wpAny_pure ?_; show wpAny _ _ (forIn [] PUnit.unit _) _ _ _; rw [List.forIn_nil]; refine wpAny_pure (wpAny_bind (wpAny_rule ?_))
  unfold Builtin.SmallTypes.stopIteration; refine wpAny_bind ?_; simp only [newExc, newTuple]
  refine wpAny_bind (wpAny_newObj_type ?_ (by size_fits)); refine wpAny_bind (m := firstArgMember _ _) (wpAny_of_eq (a := Value.none) (by first | rfl | (simp only [firstArgMember]; rfl)) ?_)
  refine wpAny_newObj_type ?_ (by size_fits); simp only [raiseNew]; refine wpAny_bind (wpAny_handled ?_); rw [hh]
  refine wpAny_bind (wpAny_pure (wpAny_throw ?_))
  exact k _ _ _ (fun c o x1 x2 x3 x4 e => Heap.get?_push_of_some _ (Heap.get?_push_of_some _ (s2 _ _ x4 (b1.extBut _ _ x1 (s1 _ _ x3 (b0.extBut _ _ x1 e)))))) ⟨_, Heap.get?_push_size _ rfl, rfl⟩
end
end W2

set_option Elab.async false
set_option linter.all false
set_option maxRecDepth 100000
set_option maxHeartbeats 2000000
/-! W2AI: zip(x, y, strict=True): made, walked. -/
namespace W2
open PySem
theorem tc_zipS (x y v : Value) : checkTypeCall "zip" ⟨[x, y], [(Str.ofString "strict", v)]⟩ = pure () := by kernel_rfl
theorem nc_zipS (x y v : Value) : checkBuiltinCall "zip.__new__" ⟨[.type "zip", x, y], [(Str.ofString "strict", v)]⟩ = pure () := by kernel_rfl
theorem ai_zipS (o x y v : Value) : argsOk "object.__init__" ⟨[o, x, y], [(Str.ofString "strict", v)]⟩ := by unfold argsOk; kernel_rfl
abbrev zsT (h : Heap) (o1 o2 : Obj) : Heap := ((h.push o1).push o2).push { cls := .type "tuple", data := .seq #[.ref h.objs.size, .ref (h.push o1).objs.size] }
abbrev zsO (h : Heap) (o1 o2 : Obj) : Heap := (zsT h o1 o2).push { cls := .type "tuple", data := .seq #[.none, .none] }
abbrev zsZ (h : Heap) (o1 o2 : Obj) : Heap := (zsO h o1 o2).push { cls := .type "zip", data := .fields #[.none, .bool false, .bool true, .ref ((h.push o1).push o2).objs.size, .ref (zsT h o1 o2).objs.size] }
theorem meets_zipS {x y : Value} {o1 o2 : Obj} {H1 H2 : Heap → Prop} (B1 : Begins x o1 H1) (B2 : Begins y o2 H2) :
    Meets (Builtin.«zip.__new__» ⟨[.type "zip", x, y], [(Str.ofString "strict", .bool true)]⟩) (fun _ R s => (H1 s.heap ∧ H2 s.heap) ∧ R (.ok (.ret (.ref (zsO s.heap o1 o2).objs.size))) { s with heap := zsZ s.heap o1 o2 }) :=
  .of_wp fun prog w A R s hh => by
    obtain ⟨h0, gn, dr, tk, os⟩ := s; obtain ⟨⟨h1, h2⟩, hh⟩ := hh
    have hsub := sub_zip
    have e1 : (Str.ofString "strict" != ("strict" : Str)) = false := by decide +kernel
    have q1 : ∀ {A' : Around} {E : Value → Shared → Prop} {Q : Value → Shared → Prop}, Q (.ref h0.objs.size) ⟨h0.push o1, gn, dr, tk, os⟩ → wpAny (model prog w) A' (pyIter x) Q E ⟨h0, gn, dr, tk, os⟩ := fun q => B1.iter prog w _ _ ⟨h0, gn, dr, tk, os⟩ _ h1 q
    have q2 : ∀ {A' : Around} {E : Value → Shared → Prop} {Q : Value → Shared → Prop}, Q (.ref (h0.push o1).objs.size) ⟨(h0.push o1).push o2, gn, dr, tk, os⟩ → wpAny (model prog w) A' (pyIter y) Q E ⟨h0.push o1, gn, dr, tk, os⟩ := fun q => B2.iter prog w _ _ ⟨h0.push o1, gn, dr, tk, os⟩ _ (B2.keeps _ _ h2 fun b o e => Heap.get?_push_of_some _ e) q
    wp_walk using q1, q2
    exact ⟨_, rfl, hh⟩
end W2

set_option Elab.async false
set_option linter.all false
set_option maxRecDepth 100000
set_option maxHeartbeats 2000000
/-! W2AJ: zip(x, y) and zip(x, y, strict=True) of lists and tuples in any mix. -/
namespace W2
open PySem PySem.Spec PyProof.Rows L2
/-- a list or a tuple, by a mark -/
def sqIt (t : Bool) (h : Heap) (it a : Addr) (i : Nat) : Prop := match t with | true => h.IsTupleIter it a i | false => h.IsListIter it a i
def sqSc (t : Bool) (h : Heap) (a : Addr) (xs : Array Value) : Prop := match t with | true => h.IsTuple a xs | false => h.IsList a xs
def sqO (t : Bool) (a : Addr) : Obj := { cls := .type (match t with | true => "tuple_iterator" | false => "list_iterator"), data := .fields #[.ref a, .int 0 0] }
def sqH (t : Bool) (K : PySem.W.Frag) (H : Hp) (a : Addr) (xs : List V) : Prop := match t with | true => SqT K H a xs | false => SqL K H a xs
theorem sq_draws {P : Program} {w : World} {A : Around} (hh : A.handled = none) (t : Bool) (it a : Addr) (ne : a ≠ it) (xs : Array Value) : Draws P w A it [it, a] xs.size (fun i v => xs[i]? = some v) (fun i h => sqIt t h it a i ∧ sqSc t h a xs) := by
  cases t
  · exact Draws.list hh it a ne xs
  · exact Draws.tuple hh it a ne xs
theorem sq_begins (t : Bool) (a : Addr) (xs : Array Value) : Begins (.ref a) (sqO t a) fun h => sqSc t h a xs := by
  cases t
  · exact begins_list a xs
  · exact begins_tuple a xs
theorem sq_it (t : Bool) {h : Heap} {it a : Addr} (e : h.get? it = some (sqO t a)) : sqIt t h it a 0 := by
  cases t
  · exact ⟨_, e, rfl, rfl⟩
  · exact ⟨_, e, rfl, rfl⟩
theorem sq_at (t : Bool) {h h' : Heap} {it a : Addr} {i : Nat} (e : sqIt t h it a i) (k : ∀ o, h.get? it = some o → h'.get? it = some o) : sqIt t h' it a i := by
  cases t
  · exact Heap.IsListIter.at e k
  · exact Heap.IsTupleIter.at e k
theorem sq_obj (t : Bool) {h : Heap} {it a : Addr} {i : Nat} (e : sqIt t h it a i) : ∃ o, h.get? it = some o ∧ ∀ v, o.data ≠ .cell v := by
  cases t
  · obtain ⟨o, e, _, d⟩ := e; exact ⟨o, e, fun v q => by rw [d] at q; cases q⟩
  · obtain ⟨o, e, _, d⟩ := e; exact ⟨o, e, fun v q => by rw [d] at q; cases q⟩
theorem sq_its (t : Bool) {X : Cx} {pins : List (Addr × Obj)} {σ : L2.St} {H : Hp} {s : Shared} {a : Addr} {xs : List V} (I : Inv X pins σ H s) (q : sqH t X.K H a xs) : ∃ its : List Value, Vals xs its ∧ sqSc t s.heap a its.toArray ∧ a < s.heap.objs.size := by
  cases t
  · obtain ⟨its, r, p, _⟩ := I.list q
    exact ⟨its, r, p.isList, by obtain ⟨o, ho, _⟩ := p.isList; exact Heap.lt_size ho⟩
  · obtain ⟨its, r, p, _⟩ := I.tuple q
    have pt : s.heap.IsTuple a its.toArray := p
    exact ⟨its, r, pt, by obtain ⟨o, ho, _⟩ := pt; exact Heap.lt_size ho⟩
/-- plain or strict, by a mark -/
def ZipB (b : Bool) (h : Heap) (q ti to : Addr) (v : Value) : Prop := h.get? q = some { cls := .type "zip", dict := none, data := .fields #[v, .bool false, .bool b, .ref ti, .ref to], slots := #[] }
section
variable {prog : Program} {w : World} {A : Around} {E : Value → Shared → Prop} {s : Shared}
theorem go_zipS {elts : List Expr} {k : Nat} {pos : Pos} {q ti to T : Addr} {Q : Unit → Shared → Prop} (hz : ZipS s.heap q ti to (rawInt T))
    (hQ : ∀ g, ZipS g q ti to .none → Heap.SameBut q s.heap g → Q () { s with heap := g }) : wpAny (model prog w) A (letOwnedTupleGo (.Tuple elts k pos) (.ref q) (.ref T)) Q E s := by
  unfold letOwnedTupleGo; refine wpAny_bind (wpAny_load hz ?_)
  show wpAny _ _ (if (["enumerate", "zip", "dict_itemiterator", "dict_reverseitemiterator", "odict_iterator", "itertools.zip_longest", "itertools.pairwise"].contains "zip" && (#[rawInt T, .bool false, .bool true, .ref ti, .ref to] : Array Value)[0]? == some (rawInt T)) = true then _ else _) Q E s
  rw [if_pos (by simp)]; refine wpAny_bind (wpAny_rule ?_); show wpAny _ _ (setField (.ref q) 0 .none) Q E s
  exact wpAny_setField_rec hz (by simp) fun g z b => hQ g z b
theorem iter_zipS {q ti to : Addr} {v : Value} {Q : Value → Shared → Prop} (hz : ZipS s.heap q ti to v) (h : Q (.ref q) s) : wpAny (model prog w) A (pyIter (.ref q)) Q E s := by
  have hT : s.TypeIs (.ref q) "zip" := ⟨_, hz, rfl⟩
  refine wpAny_pyIter_slot hT F.slot_zip_iter (wpAny_call_entry F.slot_zip_iter hT F.entry_zip_iter ?_ (F.args_zip_iter_1 _)); show wpAny _ _ (ret (.ref q)) _ _ s
  exact wpAny_pure ⟨_, rfl, "zip", _, hT, F.slot_zip_next.lookup, h⟩
variable {q ti to i1 i2 : Addr} {fp1 fp2 : List Addr} {n i : Nat} {P1 P2 : Nat → Value → Prop} {St1 St2 : Nat → Heap → Prop} {u1 u2 : Value}
theorem walks_zipS (hh : A.handled = none) (S : ZipSep2 q ti to i1 i2 fp1 fp2) (D1 : Draws prog w A.in1 i1 fp1 n P1 St1) (D2 : Draws prog w A.in1 i2 fp2 n P2 St2) :
    WalksT prog w A q (q :: ti :: to :: (fp1 ++ fp2)) [q, ti, to, i1, i2] n (fun i vals => ∃ x y, P1 i x ∧ P2 i y ∧ vals = #[x, y])
      (fun i h => ZipS h q ti to .none ∧ IsTupOf2 h ti (.ref i1) (.ref i2) ∧ (∃ x y, IsTupOf2 h to x y) ∧ St1 i h ∧ St2 i h)
      (fun i T h => ZipS h q ti to (rawInt T) ∧ IsTupOf2 h ti (.ref i1) (.ref i2) ∧ (∃ x y, IsTupOf2 h to x y) ∧ St1 (i + 1) h ∧ St2 (i + 1) h ∧ T ∉ [q, ti, to, i1, i2] ∧ NoDict h T) where
  sub := fun c hc => by
    simp only [List.mem_cons, List.not_mem_nil, or_false] at hc
    simp only [List.mem_cons, List.mem_append]
    rcases hc with e | e | e | e | e
    · exact .inl e
    · exact .inr (.inl e)
    · exact .inr (.inr (.inl e))
    · exact .inr (.inr (.inr (.inl (e ▸ S.mem1))))
    · exact .inr (.inr (.inr (.inr (e ▸ S.mem2))))
  frame := fun i h h' ⟨z1, z2, ⟨x, y, z3⟩, z4, z5⟩ hk => ⟨hk q (by simp) _ z1, hk ti (by simp) _ z2, ⟨x, y, hk to (by simp) _ z3⟩, D1.frame _ _ _ z4 fun b hb => hk b (by simp [hb]), D2.frame _ _ _ z5 fun b hb => hk b (by simp [hb])⟩
  item := fun i s Q E hi ⟨z1, z2, ⟨x, y, z3⟩, z4, z5⟩ hQ => by
    have hT : s.TypeIs (.ref q) "zip" := ⟨_, z1, rfl⟩
    have lt : ∀ {c o}, s.heap.get? c = some o → s.heap.objs.size ≠ c := fun e => Nat.ne_of_gt (Heap.lt_size e)
    have l1 : s.heap.objs.size ≠ i1 := by obtain ⟨_, e⟩ := D1.live _ _ z4; exact lt e
    have l2 : s.heap.objs.size ≠ i2 := by obtain ⟨_, e⟩ := D2.live _ _ z5; exact lt e
    unfold pyNext; refine wpAny_bind (wpAny_attempt (wpAny_callSpecial?_slot (name := Str.ofString "__next__") hT F.slot_zip_next (wpAny_call_entry F.slot_zip_next hT F.entry_zip_next ?_ (F.args_zip_next_1 _))))
    refine zs_item S D1 D2 z1 z2 z3 z4 z5 hi hi fun a b g tk p1 p2 y1 y2 y3 y4 y5 y6 hk => wpAny_pure ?_
    exact hQ _ #[a, b] g tk ⟨a, b, p1, p2, rfl⟩ (Nat.le_refl _) ⟨_, y5, rfl, _, rfl⟩ ⟨y1, hk _ _ S.TIz S.TITO S.TIi1 S.TIi2 z2, ⟨_, _, y2⟩, y3, y4, by simp [lt z1, lt z2, lt z3, l1, l2], _, y5, rfl⟩ fun c o hc e => by
      simp only [List.mem_cons, List.not_mem_nil, or_false, not_or] at hc
      exact hk c o hc.1 hc.2.2.1 hc.2.2.2.1 hc.2.2.2.2 e
  go := fun elts k pos i T s Q E ⟨z1, z2, ⟨x, y, z3⟩, z4, z5, _⟩ hQ => go_zipS z1 fun g z b => hQ g ⟨z, b.extBut _ _ S.TIz z2, ⟨x, y, b.extBut _ _ S.TOz z3⟩, D1.over z4 b S.zf1, D2.over z5 b S.zf2⟩ fun c o hc e => b.extBut _ _ (fun z => hc (by simp [z])) e
  apart := fun i T h ⟨_, _, _, _, _, t, _⟩ => t
  done := fun s Q E ⟨z1, z2, ⟨x, y, z3⟩, z4, z5⟩ hQ => by
    have hT : s.TypeIs (.ref q) "zip" := ⟨_, z1, rfl⟩
    unfold pyNext; refine wpAny_bind (wpAny_attempt (wpAny_callSpecial?_slot (name := Str.ofString "__next__") hT F.slot_zip_next (wpAny_call_entry F.slot_zip_next hT F.entry_zip_next ?_ (F.args_zip_next_1 _))))
    refine zs_end hh S D1 D2 z1 z2 z3 z4 z5 fun g tk e hk ⟨o, ho, hc⟩ => ?_
    refine wpAny_bind (wpAny_isInstance (T := "StopIteration") (b := true) ⟨o, ho, hc⟩ isSubtype_stop (wpAny_pure (hQ _ _ fun c o hc e => ?_)))
    simp only [List.mem_cons, List.not_mem_nil, or_false, not_or] at hc
    exact hk c o hc.1 hc.2.2.1 hc.2.2.2.1 hc.2.2.2.2 e
  self := fun i s Q E h hQ => iter_zipS h.1 hQ
variable {n1 n2 : Nat}
theorem walks_zipP (S : ZipSep2 q ti to i1 i2 fp1 fp2) (D1 : Draws prog w A.in1 i1 fp1 n1 P1 St1) (D2 : Draws prog w A.in1 i2 fp2 n2 P2 St2) :
    WalksT prog w A q (q :: ti :: to :: (fp1 ++ fp2)) [q, ti, to, i1, i2] (min n1 n2) (fun i vals => ∃ x y, P1 i x ∧ P2 i y ∧ vals = #[x, y])
      (fun i h => IsZip h q ti to .none ∧ IsTupOf2 h ti (.ref i1) (.ref i2) ∧ (∃ x y, IsTupOf2 h to x y) ∧ St1 i h ∧ St2 i h)
      (fun i T h => IsZip h q ti to (rawInt T) ∧ IsTupOf2 h ti (.ref i1) (.ref i2) ∧ (∃ x y, IsTupOf2 h to x y) ∧ St1 (i + 1) h ∧ St2 (i + 1) h ∧ T ∉ [q, ti, to, i1, i2] ∧ NoDict h T) where
  sub := fun c hc => by
    simp only [List.mem_cons, List.not_mem_nil, or_false] at hc
    simp only [List.mem_cons, List.mem_append]
    rcases hc with e | e | e | e | e
    · exact .inl e
    · exact .inr (.inl e)
    · exact .inr (.inr (.inl e))
    · exact .inr (.inr (.inr (.inl (e ▸ S.mem1))))
    · exact .inr (.inr (.inr (.inr (e ▸ S.mem2))))
  frame := fun i h h' ⟨z1, z2, ⟨x, y, z3⟩, z4, z5⟩ hk => ⟨hk q (by simp) _ z1, hk ti (by simp) _ z2, ⟨x, y, hk to (by simp) _ z3⟩, D1.frame _ _ _ z4 fun b hb => hk b (by simp [hb]), D2.frame _ _ _ z5 fun b hb => hk b (by simp [hb])⟩
  item := fun i s Q E hi ⟨z1, z2, ⟨x, y, z3⟩, z4, z5⟩ hQ => by
    have lt : ∀ {c o}, s.heap.get? c = some o → s.heap.objs.size ≠ c := fun e => Nat.ne_of_gt (Heap.lt_size e)
    have l1 : s.heap.objs.size ≠ i1 := by obtain ⟨_, e⟩ := D1.live _ _ z4; exact lt e
    have l2 : s.heap.objs.size ≠ i2 := by obtain ⟨_, e⟩ := D2.live _ _ z5; exact lt e
    refine wpAny_pyNext_zipD2_item S D1 D2 z1 z2 z3 z4 z5 (by omega) (by omega) fun a b g tk p1 p2 y1 y2 y3 y4 y5 y6 hk => ?_
    exact hQ _ #[a, b] g tk ⟨a, b, p1, p2, rfl⟩ (Nat.le_refl _) ⟨_, y5, rfl, _, rfl⟩ ⟨y1, hk _ _ S.TIz S.TITO S.TIi1 S.TIi2 z2, ⟨_, _, y2⟩, y3, y4, by simp [lt z1, lt z2, lt z3, l1, l2], _, y5, rfl⟩ fun c o hc e => by
      simp only [List.mem_cons, List.not_mem_nil, or_false, not_or] at hc
      exact hk c o hc.1 hc.2.2.1 hc.2.2.2.1 hc.2.2.2.2 e
  go := fun elts k pos i T s Q E ⟨z1, z2, ⟨x, y, z3⟩, z4, z5, _⟩ hQ => wpAny_letOwnedTupleGo_zip z1 fun g z b => hQ g ⟨z, b.extBut _ _ S.TIz z2, ⟨x, y, b.extBut _ _ S.TOz z3⟩, D1.over z4 b S.zf1, D2.over z5 b S.zf2⟩ fun c o hc e => b.extBut _ _ (fun z => hc (by simp [z])) e
  apart := fun i T h ⟨_, _, _, _, _, t, _⟩ => t
  done := fun s Q E ⟨z1, z2, ⟨x, y, z3⟩, z4, z5⟩ hQ => by
    refine wpAny_pyNext_zipD2_end S D1 D2 z1 z2 z3 z4 z5 (by omega) (by omega) (by omega) fun g tk hk => hQ g tk fun c o hc e => ?_
    simp only [List.mem_cons, List.not_mem_nil, or_false, not_or] at hc
    exact hk c o hc.1 hc.2.2.1 hc.2.2.2.1 hc.2.2.2.2 e
  self := fun i s Q E h hQ => wpAny_pyIter_zip h.1 hQ
end
end W2

set_option Elab.async false
set_option linter.all false
set_option maxRecDepth 100000
set_option maxHeartbeats 2000000
/-! W2AK: zip(x, y) and zip(x, y, strict=True): the rules. -/
namespace W2
open PySem PySem.Spec PyProof.Rows L2
section
variable {prog : Program} {w : World} {A : Around} {E : Value → Shared → Prop} {s : Shared}
theorem zip_beginsS {v1 v2 : Value} {o1 o2 : Obj} {H1 H2 : Heap → Prop} {Q : Value → Shared → Prop} (B1 : Begins v1 o1 H1) (B2 : Begins v2 o2 H2) (h1 : H1 s.heap) (h2 : H2 s.heap)
    (h : ∀ g, ZipS g (s.heap.objs.size + 4) (s.heap.objs.size + 2) (s.heap.objs.size + 3) .none → IsTupOf2 g (s.heap.objs.size + 2) (.ref s.heap.objs.size) (.ref (s.heap.objs.size + 1)) → IsTupOf2 g (s.heap.objs.size + 3) .none .none →
      g.get? s.heap.objs.size = some o1 → g.get? (s.heap.objs.size + 1) = some o2 → (∀ c o, s.heap.get? c = some o → g.get? c = some o) → Q (.ref (s.heap.objs.size + 4)) { s with heap := g }) :
    wpAny (model prog w) A (call (.type "zip") [v1, v2] [(Str.ofString "strict", .bool true)]) Q E s := by
  refine callType_newKw F.called_zip (by decide) (tc_zipS _ _ _) (nc_zipS _ _ _) (fun o => ai_zipS o _ _ _) F.entry_zip_new (meets_zipS B1 B2) ⟨⟨h1, h2⟩, ?_⟩
  have e1 : (s.heap.push o1).objs.size = s.heap.objs.size + 1 := by rw [Heap.size_push]
  have e2 : ((s.heap.push o1).push o2).objs.size = s.heap.objs.size + 2 := by rw [Heap.size_push, e1]
  have e3 : (zsT s.heap o1 o2).objs.size = s.heap.objs.size + 3 := by rw [Heap.size_push, e2]
  have e4 : (zsO s.heap o1 o2).objs.size = s.heap.objs.size + 4 := by rw [Heap.size_push, e3]
  have r : ∀ {h : Heap} {o : Obj} {c : Addr} {u : Obj}, h.get? c = some u → (h.push o).get? c = some u := fun e => Heap.get?_push_of_some _ e
  have g4 : (zsZ s.heap o1 o2).get? (zsO s.heap o1 o2).objs.size = some { cls := .type "zip", data := .fields #[.none, .bool false, .bool true, .ref ((s.heap.push o1).push o2).objs.size, .ref (zsT s.heap o1 o2).objs.size] } := Heap.get?_push_size _ rfl
  have g3 : (zsZ s.heap o1 o2).get? (zsT s.heap o1 o2).objs.size = some { cls := .type "tuple", data := .seq #[.none, .none] } := r (Heap.get?_push_size _ rfl)
  have g2 : (zsZ s.heap o1 o2).get? ((s.heap.push o1).push o2).objs.size = some { cls := .type "tuple", data := .seq #[.ref s.heap.objs.size, .ref (s.heap.push o1).objs.size] } := r (r (Heap.get?_push_size _ rfl))
  have g0 : (zsZ s.heap o1 o2).get? s.heap.objs.size = some o1 := r (r (r (r (Heap.get?_push_size _ B1.free))))
  have g1 : (zsZ s.heap o1 o2).get? (s.heap.push o1).objs.size = some o2 := r (r (r (Heap.get?_push_size _ B2.free)))
  rw [e4, e3, e2] at g4; rw [e3] at g3; rw [e2, e1] at g2; rw [e1] at g1
  show _ ∧ _
  rw [e4]
  exact ⟨⟨_, g4, rfl⟩, h _ g4 g2 g3 g0 g1 fun c o e => r (r (r (r (r e))))⟩
end
section
variable {M : Model} {A : Around} {E : Value → Shared → Prop} {s : Shared} {env : Env}
/-- a call of a built-in class with keywords -/
theorem cw_kw {pos : Pos} {T : String} {e : Expr} {rest : List Expr} {kws : List Keyword} {Q : Value → Shared → Prop}
    (h : wpAny M A (spliced (backTo pos (starEach (e :: rest) env))) (fun vs s₁ => wpAny M A (evalAll ((backToKw pos (keywordEach kws env)).map (·.2))) (fun ks s₂ => wpAny M A (call (.type T) vs (((backToKw pos (keywordEach kws env)).filterMap (·.1)).zip ks)) Q E s₂) E s₁) E s)
    (he : backTo pos (starEach (e :: rest) env) = (false, eval e env) :: backTo pos (starEach rest env)) (hp : (backTo pos (starEach (e :: rest) env)).any (·.1) = false)
    (ha : (backToKw pos (keywordEach kws env)).all (·.1.isSome) = true) (hn : (backToKw pos (keywordEach kws env)).any (·.1.isNone) = false) : wpAny M A (callWith pos (.type T) [] (backTo pos (starEach (e :: rest) env)) (backToKw pos (keywordEach kws env))) Q E s := by
  have h' : wpAny M A (evalArgs (.type T) true (backTo pos (starEach (e :: rest) env)) (backToKw pos (keywordEach kws env))) (fun a s₁ => wpAny M A (call (.type T) ([] ++ a.pos) a.kw) Q E s₁) E s := by
    rw [he] at h ⊢; exact evalArgs_kwB ha h
  unfold callWith; refine wpAny_bind (wpAny_holding (wpAny_mono h' (fun a s₁ h₁ => wpAny_bind (wpAny_standAt ?_)) fun _ _ x => x)); simp only [hp, hn, Bool.or_false]
  refine wpAny_bind (wpAny_pure (wpAny_bind (wpAny_mono h₁ (fun r s₂ hr => wpAny_bind (wpAny_holding (wpAny_point (wpAny_pure hr)))) fun _ _ x => x)))
end
/-- at each turn a pair of the two rows' items -/
def zpG (xs ys : List V) : Hp → Nat → List V → Prop := fun _ i vs => ∃ x y, xs[i]? = some x ∧ ys[i]? = some y ∧ vs = [x, y]
def ItZ (K : PySem.W.Frag) (t1 t2 : Bool) (a b : Addr) (xs ys : List V) : It := ItT (fun H => sqH t1 K H a xs ∧ sqH t2 K H b ys) (min xs.length ys.length) (zpG xs ys)
theorem sq_drawsN {P : Program} {w : World} {A : Around} (hh : A.handled = none) (t : Bool) (it a : Addr) (ne : a ≠ it) (xs : Array Value) (n : Nat) (e : xs.size = n) : Draws P w A it [it, a] n (fun i v => xs[i]? = some v) (fun i h => sqIt t h it a i ∧ sqSc t h a xs) := e ▸ sq_draws hh t it a ne xs
theorem zp_val {xs ys : List V} {us ws : List Value} (r1 : Vals xs us) (r2 : Vals ys ws) {H : Hp} {i : Nat} {vals : Array Value} (h : ∃ x y, us.toArray[i]? = some x ∧ ws.toArray[i]? = some y ∧ vals = #[x, y]) : ∃ vs, Vals vs vals.toList ∧ zpG xs ys H i vs ∧ vs.length ≤ 1000 := by
  obtain ⟨x, y, e1, e2, rfl⟩ := h
  have f1 : us[i]? = some x := by simpa using e1
  have f2 : ws[i]? = some y := by simpa using e2
  have l1 : i < xs.length := by rw [r1.length]; exact (List.getElem?_eq_some_iff.mp f1).1
  have l2 : i < ys.length := by rw [r2.length]; exact (List.getElem?_eq_some_iff.mp f2).1
  obtain ⟨u, hu, ru⟩ := r1.get (List.getElem?_eq_getElem l1)
  obtain ⟨v, hv, rv⟩ := r2.get (List.getElem?_eq_getElem l2)
  rw [f1] at hu; cases hu; rw [f2] at hv; cases hv
  exact ⟨[xs[i], ys[i]], .cons ru (.cons rv .nil), ⟨_, _, List.getElem?_eq_getElem l1, List.getElem?_eq_getElem l2, rfl⟩, by show 2 ≤ 1000; decide⟩
theorem zp_src {X : Cx} {pins : List (Addr × Obj)} {σ : L2.St} {H : Hp} {s : Shared} {t1 t2 : Bool} {a b : Addr} {xs ys : List V} (I : Inv X pins σ H s) (h : sqH t1 X.K H a xs ∧ sqH t2 X.K H b ys) :
    ∃ y : List Value × List Value, (y.1.length = xs.length ∧ y.2.length = ys.length ∧ Vals xs y.1 ∧ Vals ys y.2) ∧ sqSc t1 s.heap a y.1.toArray ∧ sqSc t2 s.heap b y.2.toArray := by
  obtain ⟨us, r1, p1, _⟩ := sq_its t1 I h.1
  obtain ⟨ws, r2, p2, _⟩ := sq_its t2 I h.2
  exact ⟨(us, ws), ⟨r1.length.symm, r2.length.symm, r1, r2⟩, p1, p2⟩
theorem zp_obj {h : Heap} {q ti to i1 i2 : Addr} {a b : Addr} {t1 t2 bb : Bool} {i : Nat} {x y : Value} (z1 : ZipB bb h q ti to .none) (z2 : IsTupOf2 h ti (.ref i1) (.ref i2)) (z3 : IsTupOf2 h to x y) (z4 : sqIt t1 h i1 a i) (z5 : sqIt t2 h i2 b i) : ∀ c ∈ [q, ti, to, i1, i2], ∃ o, h.get? c = some o ∧ ∀ v, o.data ≠ .cell v := fun c hc => by
  simp only [List.mem_cons, List.not_mem_nil, or_false] at hc
  rcases hc with rfl | rfl | rfl | rfl | rfl
  · exact ⟨_, z1, fun v q => nomatch q⟩
  · exact ⟨_, z2, fun v q => nomatch q⟩
  · exact ⟨_, z3, fun v q => nomatch q⟩
  · exact sq_obj t1 z4
  · exact sq_obj t2 z5
abbrev zpStS (N a b : Addr) (t1 t2 : Bool) (i : Nat) (h : Heap) : Prop := (ZipB true h (N + 4) (N + 2) (N + 3) .none ∧ IsTupOf2 h (N + 2) (.ref N) (.ref (N + 1))) ∧ (∃ x y, IsTupOf2 h (N + 3) x y) ∧ sqIt t1 h N a i ∧ sqIt t2 h (N + 1) b i
theorem turn_zpS {P : Program} {w : World} {K : PySem.W.Frag} {elts : List Expr} {kk : Nat} {tpos : Pos} {N a b : Addr} {xs ys : List V} {t1 t2 : Bool} (ha : a < N) (hb : b < N) (hl : xs.length = ys.length) :
    Turn P w K (.Tuple elts kk tpos) (ItZ K t1 t2 a b xs ys) [N + 4, N + 2, N + 3, N, N + 1] (N + 4) (zpStS N a b t1 t2) :=
  turn_T (Y := {y : List Value × List Value // y.2.length = y.1.length}) (Sc := fun y h => sqSc t1 h a y.1.1.toArray ∧ sqSc t2 h b y.1.2.toArray) (nY := fun y => y.1.1.toArray.size)
    (W := fun y A hh => walks_zipS hh (zip_sep2 (N := N) (fp1 := [a]) (fp2 := [b]) (by simpa using ha) (by simpa using hb)) (sq_draws (A := A.in1) hh t1 N a (Nat.ne_of_lt ha) y.1.1.toArray) (sq_drawsN (A := A.in1) hh t2 (N + 1) b (Nat.ne_of_lt (Nat.lt_succ_of_lt hb)) y.1.2.toArray y.1.1.toArray.size (by simpa using y.2)))
    (fun _ _ _ _ m => m.2.2.2.2.2.2) (fun _ i h x y => ⟨x.1.1, x.1.2, x.2.1, ⟨x.2.2.1, y.1⟩, ⟨x.2.2.2, y.2⟩⟩) (fun _ i h x => ⟨⟨x.1, x.2.1⟩, x.2.2.1, x.2.2.2.1.1, x.2.2.2.2.1⟩) (by simp)
    (fun i h ⟨⟨z1, z2⟩, ⟨x, y, z3⟩, z4, z5⟩ => zp_obj z1 z2 z3 z4 z5)
    (fun i h h' ⟨⟨z1, z2⟩, ⟨x, y, z3⟩, z4, z5⟩ k => ⟨⟨k _ (by simp) _ z1, k _ (by simp) _ z2⟩, ⟨x, y, k _ (by simp) _ z3⟩, sq_at t1 z4 fun o q => k _ (by simp) o q, sq_at t2 z5 fun o q => k _ (by simp) o q⟩)
    (fun X pins σ H s hP hw hK I hz => by
      subst hP hw hK
      obtain ⟨y, ⟨l1, l2, r1, r2⟩, p1, p2⟩ := zp_src I hz
      exact ⟨⟨y, by omega⟩, ⟨p1, p2⟩, (by show y.1.toArray.size = _; simp only [List.size_toArray]; omega), fun i vals _ h => zp_val r1 r2 h⟩)
    (fun A i s Q E h q => iter_zipS h.1.1 q)
abbrev zpStP (N a b : Addr) (t1 t2 : Bool) (i : Nat) (h : Heap) : Prop := (ZipB false h (N + 4) (N + 2) (N + 3) .none ∧ IsTupOf2 h (N + 2) (.ref N) (.ref (N + 1))) ∧ (∃ x y, IsTupOf2 h (N + 3) x y) ∧ sqIt t1 h N a i ∧ sqIt t2 h (N + 1) b i
theorem turn_zpP {P : Program} {w : World} {K : PySem.W.Frag} {elts : List Expr} {kk : Nat} {tpos : Pos} {N a b : Addr} {xs ys : List V} {t1 t2 : Bool} (ha : a < N) (hb : b < N) :
    Turn P w K (.Tuple elts kk tpos) (ItZ K t1 t2 a b xs ys) [N + 4, N + 2, N + 3, N, N + 1] (N + 4) (zpStP N a b t1 t2) :=
  turn_T (Y := List Value × List Value) (Sc := fun y h => sqSc t1 h a y.1.toArray ∧ sqSc t2 h b y.2.toArray) (nY := fun y => min y.1.toArray.size y.2.toArray.size)
    (W := fun y A hh => walks_zipP (zip_sep2 (N := N) (fp1 := [a]) (fp2 := [b]) (by simpa using ha) (by simpa using hb)) (sq_draws (A := A.in1) hh t1 N a (Nat.ne_of_lt ha) y.1.toArray) (sq_draws (A := A.in1) hh t2 (N + 1) b (Nat.ne_of_lt (Nat.lt_succ_of_lt hb)) y.2.toArray))
    (fun _ _ _ _ m => m.2.2.2.2.2.2) (fun _ i h x y => ⟨x.1.1, x.1.2, x.2.1, ⟨x.2.2.1, y.1⟩, ⟨x.2.2.2, y.2⟩⟩) (fun _ i h x => ⟨⟨x.1, x.2.1⟩, x.2.2.1, x.2.2.2.1.1, x.2.2.2.2.1⟩) (by simp)
    (fun i h ⟨⟨z1, z2⟩, ⟨x, y, z3⟩, z4, z5⟩ => zp_obj z1 z2 z3 z4 z5)
    (fun i h h' ⟨⟨z1, z2⟩, ⟨x, y, z3⟩, z4, z5⟩ k => ⟨⟨k _ (by simp) _ z1, k _ (by simp) _ z2⟩, ⟨x, y, k _ (by simp) _ z3⟩, sq_at t1 z4 fun o q => k _ (by simp) o q, sq_at t2 z5 fun o q => k _ (by simp) o q⟩)
    (fun X pins σ H s hP hw hK I hz => by
      subst hP hw hK
      obtain ⟨y, ⟨l1, l2, r1, r2⟩, p1, p2⟩ := zp_src I hz
      exact ⟨y, ⟨p1, p2⟩, (by show min y.1.toArray.size y.2.toArray.size = _; simp only [List.size_toArray]; omega), fun i vals _ h => zp_val r1 r2 h⟩)
    (fun A i s Q E h q => wpAny_pyIter_zip h.1.1 q)
def iZp (K : PySem.W.Frag) (st : Bool) (ta : TA) : TI := fun σ H R => ta σ H fun us H1 => ∃ t1 t2 a b xs ys, us = [.ref a, .ref b] ∧ sqH t1 K H1 a xs ∧ sqH t2 K H1 b ys ∧ (st = true → xs.length = ys.length) ∧ R (ItZ K t1 t2 a b xs ys) H1
section
variable {X : Cx} {e e2 : Expr} {ta : TA} {wa : WA} {p pos tpos kp kp2 : Pos} {elts : List Expr} {kk kj : Nat}
theorem fp_new {pins : List (Addr × Obj)} {σ : L2.St} {H : Hp} {s : Shared} (I : Inv X pins σ H s) : ∀ c ∈ [s.heap.objs.size + 4, s.heap.objs.size + 2, s.heap.objs.size + 3, s.heap.objs.size, s.heap.objs.size + 1], FpOk X pins H c := fun c hc => by
  have le : s.heap.objs.size ≤ c := by
    simp only [List.mem_cons, List.not_mem_nil, or_false] at hc
    rcases hc with z | z | z | z | z <;> omega
  exact I.fpOk le (I.hok.fresh le)
theorem pi_zpP (hg : Gl X "zip") (hm : X.mg "zip" = none) (ha : PA X [e, e2] ta) (hs : starEach [e, e2] X.env = (false, eval e X.env) :: starEach [e2] X.env) (hp : (backTo pos (starEach [e2] X.env)).any (·.1) = false) :
    PI X (.Tuple elts kk tpos) (.Call (.Name "zip" p) [e, e2] [] pos) (iZp X.K false ta) := by
  refine ⟨fun pins s σ H R I h => Call_ (ld_blt I hg hm boot_zip (PyProof.Rows.callWith_type1 (thn (ha.run pos pins s σ H _ I h) fun us s1 ⟨vs, H1, I1, r1, q1⟩ => ?_) hs hp))⟩
  obtain ⟨t1, t2, a, b, xs, ys, rfl, h1, h2, -, q⟩ := q1
  cases r1 with
  | cons r rr =>
    cases rr with
    | cons r' rr =>
      cases rr; cases r; cases r'
      obtain ⟨us, _, p1, l1⟩ := sq_its t1 I1 h1
      obtain ⟨ws, _, p2, l2⟩ := sq_its t2 I1 h2
      refine zip_begins2 (sq_begins t1 a _) (sq_begins t2 b _) p1 p2 fun g z1 z2 z3 e1 e2 _ hk => wpAny_pyIter_zip z1 ?_
      exact ⟨s1.heap.objs.size + 4, _, _, _, H1, rfl, I1.kept (t' := s1.toks) hk, turn_zpP l1 l2, ⟨⟨z1, z2⟩, ⟨_, _, z3⟩, sq_it t1 e1, sq_it t2 e2⟩, fp_new I1, q⟩
theorem pi_zpS (hg : Gl X "zip") (hm : X.mg "zip" = none) (ha : PA X [e, e2] ta) (hs : backTo pos (starEach [e, e2] X.env) = (false, eval e X.env) :: backTo pos (starEach [e2] X.env)) (hp : (backTo pos (starEach [e, e2] X.env)).any (·.1) = false) :
    PI X (.Tuple elts kk tpos) (.Call (.Name "zip" p) [e, e2] [⟨some "strict", .Constant (.bool true) kj kp, kp2⟩] pos) (iZp X.K true ta) := by
  refine ⟨fun pins s σ H R I h => wpAny_Call_Name_kw (ld_blt I hg hm boot_zip (cw_kw (thn (ha.run pos pins s σ H _ I h) fun us s1 ⟨vs, H1, I1, r1, q1⟩ => ?_) hs hp rfl rfl))⟩
  obtain ⟨t1, t2, a, b, xs, ys, rfl, h1, h2, hl, q⟩ := q1
  refine kws_cons (Constant_bool (evalAll_nil ?_))
  cases r1 with
  | cons r rr =>
    cases rr with
    | cons r' rr =>
      cases rr; cases r; cases r'
      obtain ⟨us, _, p1, l1⟩ := sq_its t1 I1 h1
      obtain ⟨ws, _, p2, l2⟩ := sq_its t2 I1 h2
      refine zip_beginsS (sq_begins t1 a _) (sq_begins t2 b _) p1 p2 fun g z1 z2 z3 e1 e2 hk => iter_zipS z1 ?_
      exact ⟨s1.heap.objs.size + 4, _, _, _, H1, rfl, I1.kept (t' := s1.toks) hk, turn_zpS l1 l2 (hl rfl), ⟨⟨z1, z2⟩, ⟨_, _, z3⟩, sq_it t1 e1, sq_it t2 e2⟩, fp_new I1, q⟩
/-! data -/
def seqD : D → Option (List D)
  | .list ds => some ds
  | .tuple ds => some ds
  | _ => none
def zipD (ds es : List D) : List (List D) := List.zipWith (fun a b => [a, b]) ds es
theorem zipD_len (ds es : List D) : (zipD ds es).length = min ds.length es.length := by unfold zipD; rw [List.length_zipWith]
theorem zipD_get {ds es : List D} {i : Nat} {r : List D} (h : (zipD ds es)[i]? = some r) : ∃ a b, ds[i]? = some a ∧ es[i]? = some b ∧ r = [a, b] := by
  unfold zipD at h
  rw [List.getElem?_zipWith] at h
  cases h1 : ds[i]? with
  | none => rw [h1] at h; simp at h
  | some a =>
    cases h2 : es[i]? with
    | none => rw [h1, h2] at h; simp at h
    | some b => rw [h1, h2] at h; simp at h; exact ⟨a, b, rfl, rfl, h.symm⟩
def wZip (st : Bool) (wa : WA) : WI := fun η Q => wa η fun ds => match ds with
  | [x, y] => match seqD x, seqD y with
    | some xs, some ys => (st = true → xs.length = ys.length) ∧ Q ((zipD xs ys).map PyData.tuple)
    | _, _ => False
  | _ => False
theorem sq_dt {K : PySem.W.Frag} {F : Hp} {v : V} {d : D} {xs : List D} (h : Dt K F v d) (e : seqD d = some xs) : ∃ t a vs, v = .ref a ∧ (∀ {F' H' : Hp} {sx : Sx}, Same F F' → Base sx F' H' → sqH t K H' a vs) ∧ DtL K F vs xs := by
  cases h <;> first | (cases e; done) | skip
  · rename_i h1 h2; cases e; exact ⟨false, _, _, rfl, fun s b => SqL.of (b.le _ _ (s _ _ h1)), h2⟩
  · rename_i h1 h2; cases e; exact ⟨true, _, _, rfl, fun s b => ((h1.mono s).mono b.le).sq, h2⟩
theorem zp_dt {K : PySem.W.Frag} {F F' : Hp} {xs ys : List V} {ds es : List D} (h1 : DtL K F xs ds) (h2 : DtL K F ys es) (s : Same F F') {H : Hp} {i : Nat} {vs : List V} {r : List D} (he : (zipD ds es)[i]? = some r) (g : zpG xs ys H i vs) : DtL K F' vs r := by
  obtain ⟨d, e, hd, he2, rfl⟩ := zipD_get he
  obtain ⟨x, y, hx, hy, rfl⟩ := g
  obtain ⟨v, hv, w1⟩ := h1.get i hd
  obtain ⟨u, hu, w2⟩ := h2.get i he2
  rw [hx] at hv; cases hv; rw [hy] at hu; cases hu
  exact .cons (w1.mono s) (.cons (w2.mono s) .nil)
theorem zp_sem {K : PySem.W.Frag} {st : Bool} (h : SemB K ta wa) : SemI K (iZp K st ta) (wZip st wa) := fun {sx H0 F0 F σ H η Q R} r hw k => h r hw fun ds vs F1 H1 q e hd => by
  match ds, hd, q with
  | [x, y], .cons d1 (.cons d2 .nil), q =>
    cases e1 : seqD x with
    | none => simp only [e1] at q
    | some xs =>
      cases e2 : seqD y with
      | none => simp only [e1, e2] at q
      | some ys =>
        simp only [e1, e2] at q
        obtain ⟨t1, a, us, rfl, s1, l1⟩ := sq_dt d1 e1
        obtain ⟨t2, b, ws, rfl, s2, l2⟩ := sq_dt d2 e2
        refine ⟨t1, t2, a, b, us, ws, rfl, s1 (Same.refl _) (r.ext e).base, s2 (Same.refl _) (r.ext e).base, fun z => by rw [l1.length, l2.length]; exact q.1 z, k _ _ F1 H1 q.2 e (it_T ?_ (fun F' H' s b => ⟨s1 s b, s2 s b⟩) fun s b he g => ⟨_, .refl b, zp_dt l1 l2 s he g⟩)⟩
        rw [zipD_len, l1.length, l2.length]
theorem di_zpP (hg : Gl X "zip") (hm : X.mg "zip" = none) (ha : DB X [e, e2] ta wa) (hs : starEach [e, e2] X.env = (false, eval e X.env) :: starEach [e2] X.env := by rfl) (hp : (backTo pos (starEach [e2] X.env)).any (·.1) = false := by rfl) :
    DI X (.Tuple elts kk tpos) (.Call (.Name "zip" p) [e, e2] [] pos) (iZp X.K false ta) (wZip false wa) := ⟨pi_zpP hg hm ha.pa hs hp, zp_sem ha.sem⟩
theorem di_zpS (hg : Gl X "zip") (hm : X.mg "zip" = none) (ha : DB X [e, e2] ta wa) (hs : backTo pos (starEach [e, e2] X.env) = (false, eval e X.env) :: backTo pos (starEach [e2] X.env) := by rfl) (hp : (backTo pos (starEach [e, e2] X.env)).any (·.1) = false := by rfl) :
    DI X (.Tuple elts kk tpos) (.Call (.Name "zip" p) [e, e2] [⟨some "strict", .Constant (.bool true) kj kp, kp2⟩] pos) (iZp X.K true ta) (wZip true wa) := ⟨pi_zpS hg hm ha.pa hs hp, zp_sem ha.sem⟩
end
end W2

set_option Elab.async false
set_option linter.all false
set_option maxRecDepth 100000
/-! W2AL: dict(pairs) with tuples as keys; total += i; [x] * n; zip, K given apart. -/
namespace W2
open PySem PySem.Spec PyProof.Rows L2
section
variable {X : Cx} {pins : List (Addr × Obj)} {σ : L2.St} {H : Hp} {s : Shared}
/-- pairs, their keys tuples whose objects are known -/
def PrT (K : PySem.W.Frag) (H : Hp) (p : Addr) (x : List Key × Addr × V) : Prop := SqT K H p [.ref x.2.1, x.2.2] ∧ TupAt H x.2.1 (x.1.map kV) ∧ ∃ is : List Int, x.1 = kI is
/-- such pairs and what the heap holds -/
abbrev PrV : List (List Key × Addr × V) → List (List Key × Addr × Value) → Prop := Paired fun p q => p.1 = q.1 ∧ p.2.1 = q.2.1 ∧ RelV p.2.2 q.2.2
theorem prT_of (I : Inv X pins σ H s) : ∀ {ps : List Addr} {kvs : List (List Key × Addr × V)}, Paired (PrT X.K H) ps kvs →
    ∃ prs : List (List Key × Addr × Value), PrV kvs prs ∧ (∀ x ∈ prs, TupAt H x.2.1 (x.1.map kV) ∧ ∃ is : List Int, x.1 = kI is) ∧ prs.length = ps.length ∧ ∀ (j : Nat) (q : List Key × Addr × Value), prs[j]? = some q → ∃ b, ps[j]? = some b ∧ s.heap.IsTuple b #[.ref q.2.1, q.2.2]
  | _, _, .nil => ⟨[], .nil, (fun x hx => absurd hx List.not_mem_nil), rfl, fun j q e => by simp at e⟩
  | _, _, .cons (a := p) (b := kv) h t => by
    obtain ⟨prs, r, hk, hl, hp⟩ := prT_of I t
    obtain ⟨h1, h2, hi⟩ := h
    obtain ⟨its, rv, ht, _⟩ := I.tuple h1
    obtain ⟨u, y, ei, ru, ry⟩ := vals2 rv
    cases ru
    subst ei
    refine ⟨(kv.1, kv.2.1, y) :: prs, .cons ⟨rfl, rfl, ry⟩ r, fun x hx => ?_, by rw [List.length_cons, List.length_cons, hl], fun j q e => ?_⟩
    · rcases List.mem_cons.mp hx with e | hx
      · subst e; exact ⟨h2, hi⟩
      · exact hk x hx
    cases j with
    | zero => have e' : (kv.1, kv.2.1, y) = q := Option.some.inj e; subst e'; exact ⟨p, rfl, ht⟩
    | succ j => obtain ⟨b, e1, e2⟩ := hp j q (by simpa using e); exact ⟨b, by simpa using e1, e2⟩
theorem kt_all {G : Hp} : ∀ {kvs : List (List Key × V)} {prs : List (List Key × Addr × Value)} {acc : List (List Key × V)} {bcc : List (List Key × Addr × Value)}, KT G kvs prs → KT G acc bcc →
    KT G (kvs.foldl (fun a kv => putK a kv.1 kv.2) acc) (storedAllH bcc prs)
  | _, _, _, _, .nil, h => h
  | _, _, acc, bcc, .cons (a := kv) (b := q) hx t, h => by
    obtain ⟨e, hb, hv⟩ := hx
    have z := KT.put h kv.1 hb hv
    have z2 : storedH bcc kv.1 q.2.1 q.2.2 = storedH bcc q.1 q.2.1 q.2.2 := by rw [e]
    rw [z2] at z
    exact kt_all (acc := putK acc kv.1 kv.2) (bcc := storedH bcc q.1 q.2.1 q.2.2) t z
theorem len_stored : ∀ (prs bcc : List (List Key × Addr × Value)), (storedAllH bcc prs).length ≤ bcc.length + prs.length
  | [], bcc => Nat.le_refl _
  | q :: prs, bcc => by
    have h := len_stored prs (storedH bcc q.1 q.2.1 q.2.2)
    have h2 := storedH_length bcc q.1 q.2.1 q.2.2
    rw [List.length_cons]
    exact Nat.le_trans h (by omega)
theorem ints_stored : ∀ (prs bcc : List (List Key × Addr × Value)), (∀ x ∈ prs, ∃ is : List Int, x.1 = kI is) → (∀ x ∈ bcc, ∃ is : List Int, x.1 = is.map Sum.inl) → ∀ x ∈ storedAllH bcc prs, ∃ is : List Int, x.1 = is.map Sum.inl
  | [], bcc, _, h => h
  | q :: prs, bcc, hp, h => by
    obtain ⟨is, e⟩ := hp q List.mem_cons_self
    have z := stored_ints (is := is) (b := q.2.1) (u := q.2.2) h
    rw [← e] at z
    exact ints_stored prs (storedH bcc q.1 q.2.1 q.2.2) (fun x hx => hp x (List.mem_cons_of_mem _ hx)) z
/-- a list, or a tuple without a dict: what dict(..) can walk -/
def PSeq (t : Bool) (K : PySem.W.Frag) (H : Hp) (a : Addr) (xs : List V) : Prop := match t with | true => TupAt H a xs | false => SqL K H a xs
abbrev psT (t : Bool) : String := match t with | true => "tuple" | false => "list"
theorem pseq_at (t : Bool) {a : Addr} {xs : List V} (I : Inv X pins σ H s) (h : PSeq t X.K H a xs) : ∃ its : List Value, Vals xs its ∧ PlainSeq (psT t) s.heap a its.toArray ∧ xs.length ≤ sizeLine := by
  cases t
  · obtain ⟨its, rv, pl, hz⟩ := I.list h
    obtain ⟨o, n, ho, hc, hd, hdat⟩ := pl
    exact ⟨its, rv, ⟨o, n, ho, hc, hd, hdat⟩, hz⟩
  · obtain ⟨o, its, n, h1, h2, h3, h4, h5, h6⟩ := TupAt.obj h I.hok
    exact ⟨its, h5, ⟨o, n, h1, h3, h2, h4⟩, h6⟩
theorem psArg (t : Bool) {prog : Program} {w : World} (a : Addr) (items : Array Value) (Ts : Nat → Addr) (ps : List (Value × Value)) : PairArg prog w (psT t) a (a :: (List.range ps.length).map Ts) [] ps.length (PairRel ps) (fun h => PlainSeq (psT t) h a items ∧ PairItems h items Ts ps) := by
  cases t
  · exact PairArg.list a items Ts ps
  · exact PairArg.tuple a items Ts ps
/-- dict(xs), keys tuples of ints -/
def rDictT (K : PySem.W.Frag) : List V → Hp → VK → Prop := fun xs H Q => ∃ (t : Bool) (a : Addr) (ps : List Addr) (kvs : List (List Key × Addr × V)), xs = [.ref a] ∧ PSeq t K H a (ps.map V.ref) ∧ Paired (PrT K H) ps kvs ∧
  ∀ p o prs, H p = none → (p == sysModules) = false → PrV kvs prs → TObj o (storedAllH [] prs) → Q (.ref p) (upd H p (tdO p o))
theorem cr_dictT (hc : X.calm = true) (hu : X.A.units + 64 < cLine) : CallR X (.type "dict") (rDictT X.K) := by
  intro pins s σ H xs us Q I r q
  obtain ⟨t, a, ps, kvs, rfl, hq, hp, q⟩ := q
  obtain ⟨u, rfl, rx⟩ := vals1 r
  cases rx
  obtain ⟨its, rv, pl, hz⟩ := pseq_at t I hq
  have ei := refs_at rv
  subst ei
  rw [List.length_map] at hz
  obtain ⟨prs, pv, iskey, hl, hpr⟩ := prT_of I hp
  have hm : (s.heap.objs.size == sysModules) = false := beq_eq_false_iff_ne.mpr (Nat.ne_of_gt I.big)
  refine call_dict_pairsH (knd := tupleKind (mixKind X.prog X.w)) (ps := prs) (psArg t a (ps.map Value.ref).toArray (fun j => (ps[j]?).getD 0) (prs.map fun q => (Value.ref q.2.1, q.2.2))) (I.ok.hd hc) (show X.A.units + 1 + 1 < cLine by omega) ⟨pl, by simp [hl], fun j k v e => ?_⟩
    ⟨by simp, fun i key v e => ?_⟩ (fun g hk x hx => ?_) (by simp [hl]; exact hz) fun g tk hd' k => ?_
  · rw [List.getElem?_map] at e
    cases e1 : prs[j]? with
    | none => rw [e1] at e; cases e
    | some q' =>
      rw [e1] at e; cases e
      obtain ⟨b, e2, e3⟩ := hpr j q' e1
      exact ⟨by simp [e2], .inl (by simpa [e2] using e3)⟩
  · have e : (prs.map fun q => (Value.ref q.2.1, q.2.2))[i]? = some (key, v) := e
    rw [List.getElem?_map] at e
    cases e1 : prs[i]? with
    | none => rw [e1] at e; cases e
    | some q' => rw [e1] at e; cases e; exact ⟨q'.1, q'.2.1, rfl, rfl⟩
  · obtain ⟨oo, vs, m, h1, h2⟩ := (iskey x hx).1.key (P := X.prog) (w := X.w) I.hok
    exact ⟨oo, vs, m, hk _ _ (Nat.ne_of_lt (Heap.lt_size h1)) (fun z => nomatch z) h1, h2⟩
  · obtain ⟨o, ho, ob⟩ := TObj.mk' (by have := len_stored prs []; rw [List.length_nil, hl] at this; omega) (ints_stored prs [] (fun x hx => (iskey x hx).2) (fun x hx => nomatch hx)) hd'
    have fr := I.hok.fresh (Nat.le_refl s.heap.objs.size)
    exact ⟨.ref s.heap.objs.size, upd H s.heap.objs.size (tdO _ o), I.laid (t' := tk) (fun b o z => k b o (fun z => nomatch z) z) (Nat.le_refl _) (ext_ok ho), rfl, q _ o prs fr hm pv ob⟩
/-- dict(xs) of a tuple, keys ints and texts -/
def rDictP (K : PySem.W.Frag) : List V → Hp → VK → Prop := fun xs H Q => ∃ (a : Addr) (ps : List Addr) (kvs : List (Key × V)), xs = [.ref a] ∧ TupAt H a (ps.map V.ref) ∧ Paired (fun p kv => SqT K H p [kV kv.1, kv.2]) ps kvs ∧ ∀ p, H p = none → Q (.ref p) (upd H p (.dK (mergeK [] kvs)))
theorem cr_dictP (hc : X.calm = true) : CallR X (.type "dict") (rDictP X.K) := by
  intro pins s σ H xs us Q I r q
  obtain ⟨a, ps, kvs, rfl, hq, hp, q⟩ := q
  obtain ⟨u, rfl, rx⟩ := vals1 r
  cases rx
  obtain ⟨its, rv, pl, hz⟩ := pseq_at true I hq
  have ei := refs_at rv
  subst ei
  rw [List.length_map] at hz
  obtain ⟨prs, rel, hl, hpr⟩ := pairs_of I hp
  have hm : (s.heap.objs.size == sysModules) = false := beq_eq_false_iff_ne.mpr (Nat.ne_of_gt I.big)
  have us : ∃ us : List Value, us.length = prs.length ∧ ∀ (j : Nat) (q : Key × Value), prs[j]? = some q → ∃ (b : Addr) (u : Value), ps[j]? = some b ∧ us[j]? = some u ∧ s.heap.IsTuple b #[u, q.2] ∧ keyIs q.1 u = true := by
    clear hz rv pl rel hq hp q r
    have go : ∀ (n : Nat), n ≤ prs.length → ∃ us : List Value, us.length = n ∧ ∀ (j : Nat) (q : Key × Value), j < n → prs[j]? = some q → ∃ (b : Addr) (u : Value), ps[j]? = some b ∧ us[j]? = some u ∧ s.heap.IsTuple b #[u, q.2] ∧ keyIs q.1 u = true := by
      intro n
      induction n with
      | zero => exact fun _ => ⟨[], rfl, fun j q h => absurd h (Nat.not_lt_zero _)⟩
      | succ n ih =>
        intro hn
        obtain ⟨us, h1, h2⟩ := ih (Nat.le_of_succ_le hn)
        obtain ⟨b, u, e1, e2, e3⟩ := hpr n (prs[n]'hn) (List.getElem?_eq_getElem hn)
        refine ⟨us ++ [u], by rw [List.length_append, h1]; rfl, fun j q hj e => ?_⟩
        rcases Nat.lt_succ_iff_lt_or_eq.mp hj with hj | rfl
        · obtain ⟨b', u', x1, x2, x3⟩ := h2 j q hj e
          exact ⟨b', u', x1, by rw [List.getElem?_append_left (by omega)]; exact x2, x3⟩
        · rw [List.getElem?_eq_getElem hn] at e
          cases e
          exact ⟨b, u, e1, by rw [List.getElem?_append_right (by omega), h1, Nat.sub_self]; rfl, e2, e3⟩
    obtain ⟨us, h1, h2⟩ := go prs.length (Nat.le_refl _)
    exact ⟨us, h1, fun j q e => h2 j q (List.getElem?_eq_some_iff.mp e).1 e⟩
  obtain ⟨us, ul, uh⟩ := us
  refine PySem.call_dict_pairs (knd := mixKind X.prog X.w) (kvs := prs) (psArg true a (ps.map Value.ref).toArray (fun j => (ps[j]?).getD 0) (List.zipWith (fun u q => (u, q.2)) us prs)) (I.ok.hd hc) ⟨pl, by simp [hl, ul], fun j k v e => ?_⟩ ⟨by simp [ul], fun i key v e => ?_⟩ (by simp [hl, ul]; exact hz) fun g tk hd' k => ?_
  · rw [List.getElem?_zipWith] at e
    cases e1 : prs[j]? with
    | none => rw [e1] at e; cases us[j]? <;> simp at e
    | some q' =>
      obtain ⟨b, u, e2, e3, e4, e5⟩ := uh j q' e1
      rw [e1, e3] at e
      cases e
      exact ⟨by simp [e2], .inl (by simpa [e2] using e4)⟩
  · have e : (List.zipWith (fun u (q : Key × Value) => (u, q.2)) us prs)[i]? = some (key, v) := e
    rw [List.getElem?_zipWith] at e
    cases e1 : prs[i]? with
    | none => rw [e1] at e; cases us[i]? <;> simp at e
    | some q' =>
      obtain ⟨b, u, e2, e3, e4, e5⟩ := uh i q' e1
      rw [e1, e3] at e
      cases e
      exact ⟨q'.1, rfl, e5⟩
  · have hlen : (mergeK [] kvs).length ≤ sizeLine := by
      refine Nat.le_trans (length_mergeK kvs []) ?_
      rw [List.length_nil, Nat.zero_add, rel.length, hl]
      exact hz
    exact ⟨.ref s.heap.objs.size, upd H s.heap.objs.size (.dK (mergeK [] kvs)), I.laid (t' := tk) (fun b o z => k b o (fun z => nomatch z) z) (Nat.le_refl _) (show ObjOk X.prog X.w _ _ _ (.dK (mergeK [] kvs)) from ⟨hlen, hm, merged [] prs, KV.merge rel .nil, hd'⟩), rfl, q _ (I.hok.fresh (Nat.le_refl _))⟩
end
/-! data -/
def intsK : List D → Option (List Int)
  | [] => some []
  | .int i :: r => (intsK r).map (i :: ·)
  | _ => none
theorem intsK_eq : ∀ {ds : List D} {ks : List Int}, intsK ds = some ks → ds = (kI ks).map kD
  | [], _, e => by cases e; rfl
  | d :: r, ks, e => by
    cases q : intsK r with
    | none => cases d <;> simp [intsK, q] at e
    | some l =>
      have z := intsK_eq q
      cases d <;> simp [intsK, q] at e
      · subst e; rw [z]; rfl
def pairsT : List D → Option (List (List Int × D))
  | [] => some []
  | .tuple [.tuple ks, v] :: r => match intsK ks, pairsT r with
    | some k, some l => some ((k, v) :: l)
    | _, _ => none
  | _ => none
def mergeT (kvs : List (List Int × D)) : List (D × D) := kvs.foldl (fun acc kv => dPut acc (.tuple ((kI kv.1).map kD)) kv.2) []
theorem pairsT_dt {K : PySem.W.Frag} {F H : Hp} (le : Same F H) : ∀ {ds : List D} {vs : List V} {kvs : List (List Int × D)}, DtL K F vs ds → pairsT ds = some kvs → ∃ (ps : List Addr) (kvv : List (List Key × Addr × V)), vs = ps.map V.ref ∧ Paired (PrT K H) ps kvv ∧ (∀ x ∈ kvv, TupAt F x.2.1 (x.1.map kV)) ∧ Paired (fun (x : List Key × Addr × V) (y : List Int × D) => x.1 = kI y.1 ∧ Dt K F x.2.2 y.2) kvv kvs
  | [], _, _, .nil, e => by cases e; exact ⟨[], [], rfl, .nil, (fun x hx => absurd hx List.not_mem_nil), .nil⟩
  | d :: ds, _, kvs, .cons (v := v0) (vs := vs0) h t, e => by
    unfold pairsT at e
    split at e
    · rename_i heq; cases heq
    · rename_i ks v r heq
      cases heq
      split at e
      · rename_i k l e1 e2
        cases e
        obtain ⟨ps, kvv, h1, h2, h0, h3⟩ := pairsT_dt le t e2
        have ek := intsK_eq e1
        subst ek
        cases h with
        | tup h4 h5 =>
          cases h5 with
          | cons a1 a2 =>
            cases a2 with
            | cons a3 a4 =>
              cases a4
              cases a1 with
              | tup b1 b2 =>
                have ev := b2.keysV
                subst ev
                refine ⟨_ :: ps, (kI k, _, _) :: kvv, by rw [List.map_cons, h1], .cons ⟨(h4.mono le).sq, b1.mono le, k, rfl⟩ h2, fun x hx => ?_, .cons ⟨rfl, a3⟩ h3⟩
                rcases List.mem_cons.mp hx with e | hx
                · subst e; exact b1
                · exact h0 x hx
      · cases e
    · cases e
theorem prV_ktf {F : Hp} : ∀ {kvv : List (List Key × Addr × V)} {prs : List (List Key × Addr × Value)}, PrV kvv prs → (∀ x ∈ kvv, TupAt F x.2.1 (x.1.map kV)) → KTF F (kvv.map fun x => (x.1, x.2.2)) prs
  | _, _, .nil, _ => .nil
  | _, _, .cons (a := x) (b := y) h t, hx => .cons ⟨h.1, by rw [← h.2.1]; exact hx x List.mem_cons_self, h.2.2⟩ (prV_ktf t fun z hz => hx z (List.mem_cons_of_mem _ hz))
theorem mergeT_dt {K : PySem.W.Frag} {F : Hp} : ∀ {kvv : List (List Key × Addr × V)} {kvs : List (List Int × D)} {acc : List (List Key × V)} {es : List (D × D)}, Paired (fun (x : List Key × Addr × V) (y : List Int × D) => x.1 = kI y.1 ∧ Dt K F x.2.2 y.2) kvv kvs → DtT K F acc es →
    DtT K F ((kvv.map fun x => (x.1, x.2.2)).foldl (fun acc kv => putK acc kv.1 kv.2) acc) (kvs.foldl (fun acc kv => dPut acc (.tuple ((kI kv.1).map kD)) kv.2) es)
  | _, _, _, _, .nil, h => h
  | _, _, acc, es, .cons (a := x) (b := y) hx t, h => by
    obtain ⟨e, hv⟩ := hx
    refine mergeT_dt t (acc := putK acc x.1 x.2.2) (es := dPut es (.tuple ((kI y.1).map kD)) y.2) ?_
    rw [← e]
    exact h.put hv
def rDictX (K : PySem.W.Frag) : List V → Hp → VK → Prop := fun xs H Q => (rDictA K xs H Q ∨ rDictT K xs H Q) ∨ rDictP K xs H Q
theorem cr_dictX {X : Cx} (K : PySem.W.Frag) (hK : X.K = K) (hc : X.calm = true) (hu : X.A.units + 64 < cLine) : CallR X (.type "dict") (rDictX K) := by
  subst hK
  exact CallR.or (CallR.or (cr_dict hc) (cr_dictT hc hu)) (cr_dictP hc)
/-- dict(x): of a dict, or of a list or a tuple of pairs -/
def gDictX : List D → (D → Prop) → Prop := fun ds Q => gDictA ds Q ∨ (∃ es kvs, (ds = [.list es] ∨ ds = [.tuple es]) ∧ pairsT es = some kvs ∧ Q (.dict (mergeT kvs))) ∨ ∃ es kvs, ds = [.tuple es] ∧ pairsK es = some kvs ∧ Q (.dict (mergeD kvs))
theorem cs_dictX {K : PySem.W.Frag} : CSemD K (rDictX K) gDictX := fun {sx F H vs ds Q R} b h hg k => by
  rcases hg with hg | ⟨es, kvs, hd, e, q⟩ | ⟨es, kvs, rfl, e, q⟩
  · exact .inl (.inl (cs_dict b h hg k))
  · have src : ∃ t a xs, vs = [.ref a] ∧ PSeq t K H a xs ∧ DtL K F xs es := by
      rcases hd with rfl | rfl
      · obtain ⟨v, rfl, hv⟩ := Nws.one h
        obtain ⟨a, xs, rfl, h1, h2⟩ := hv.list b.le
        exact ⟨false, a, xs, rfl, SqL.of h1, h2⟩
      · obtain ⟨v, rfl, hv⟩ := Nws.one h
        obtain ⟨a, xs, rfl, h1, h2⟩ := hv.tuple
        exact ⟨true, a, xs, rfl, h1.mono b.le, h2⟩
    obtain ⟨t, a, xs, rfl, h1, h2⟩ := src
    obtain ⟨ps, kvv, rfl, h3, h0, h4⟩ := pairsT_dt b.le h2 e
    refine .inl (.inr ⟨t, a, ps, kvv, rfl, h1, h3, fun p o prs hp hm pv ob => k.new b q hp (.inr ⟨o, _, upd_same, ⟨hm, _, ob, ?_⟩, mergeT_dt h4 .nil⟩)⟩)
    exact .of (kt_all (prV_ktf pv h0).kt .nil)
  · obtain ⟨v, rfl, hv⟩ := Nws.one h
    obtain ⟨a, xs, rfl, h1, h2⟩ := hv.tuple
    obtain ⟨ps, kvv, rfl, h3, h4⟩ := pairs_dt b.le h2 e
    exact .inr ⟨a, ps, kvv, rfl, h1.mono b.le, h3, fun p hp => k.new b q hp (.inl ⟨_, upd_same, merge_dt h4 .nil⟩)⟩
/-! total += i -/
abbrev gAddI := gI fun i j => .int (i + j)
theorem rs_addI {K : PySem.W.Frag} : RSem K (rI0 fun i j => .int (i + j)) gAddI := rs_I fun _ _ _ => .int _
/-! [x] * n -/
def gRepL : D → D → (D → Prop) → Prop
  | .list ds, .int k, Q => ds.length ≤ 1000 ∧ -1000 ≤ k ∧ k ≤ 1000 ∧ Q (.list (List.replicate k.toNat ds).flatten)
  | _, _, _ => False
theorem rs_repL {K : PySem.W.Frag} : RSemL K rRep gRepL := fun {sx F H x y dx dy Q R} b hx hy hg k => by
  cases dx <;> cases dy <;> first | exact hg.elim | skip
  rename_i ds i
  obtain ⟨l1, l2, l3, q⟩ := hg
  obtain ⟨a, xs, rfl, h1, h2⟩ := hx.list b.le
  cases hy.int
  refine ⟨a, i, xs, rfl, rfl, h1, by omega, by omega, ?_, k.new b q (h2.rep _)⟩
  rw [h2.length]
  have : ds.length * i.toNat ≤ 1000 * 1000 := Nat.mul_le_mul l1 (by omega)
  exact Nat.le_trans this (by rw [sizeLine_eq]; decide)
section
variable {X : Cx} (K : PySem.W.Frag) (hK : X.K = K) {e e2 : Expr} {ta : TA} {wa : WA} {p pos tpos kp kp2 : Pos} {elts : List Expr} {kk kj : Nat}
include hK
theorem di_zpPK (hg : Gl X "zip") (hm : X.mg "zip" = none) (ha : DB X [e, e2] ta wa) (hs : starEach [e, e2] X.env = (false, eval e X.env) :: starEach [e2] X.env := by rfl) (hp : (backTo pos (starEach [e2] X.env)).any (·.1) = false := by rfl) :
    DI X (.Tuple elts kk tpos) (.Call (.Name "zip" p) [e, e2] [] pos) (iZp K false ta) (wZip false wa) := by subst hK; exact di_zpP hg hm ha hs hp
theorem di_zpSK (hg : Gl X "zip") (hm : X.mg "zip" = none) (ha : DB X [e, e2] ta wa) (hs : backTo pos (starEach [e, e2] X.env) = (false, eval e X.env) :: backTo pos (starEach [e2] X.env) := by rfl) (hp : (backTo pos (starEach [e, e2] X.env)).any (·.1) = false := by rfl) :
    DI X (.Tuple elts kk tpos) (.Call (.Name "zip" p) [e, e2] [⟨some "strict", .Constant (.bool true) kj kp, kp2⟩] pos) (iZp K true ta) (wZip true wa) := by subst hK; exact di_zpS hg hm ha hs hp
theorem dd_callTK {T : String} {r : List V → Hp → VK → Prop} {g : List D → (D → Prop) → Prop} {x : Str} {es : List Expr} (hc : CallR X (.type T) r) (hs : CSemD K r g) (hv : bootBuiltins x = some (.type T)) (hg : Gl X x) (hm : X.mg x = none) (ha : DA X (e :: es) ta wa) (hn : x ≠ "__name__" := by decide) (hdb : (x == ("__debug__" : Str)) = false := by decide)
    (he : starEach (e :: es) X.env = (false, eval e X.env) :: starEach es X.env := by rfl) (hpl : (backTo pos (starEach es X.env)).any (·.1) = false := by rfl) : DD X (.Call (.Name x p) (e :: es) [] pos) (tCB r ta) (wCall g wa) := by subst hK; exact dd_callT hc hs hv hg hm ha hn hdb he hpl
end
/-! sum of a tuple of ints -/
section
variable {prog : Program} {w : World} {A : Around} {E : Value → Shared → Prop} {s : Shared} {l : Addr} {its : List Value} {ns : List Int} {Q : Value → Shared → Prop}
theorem sum_rawT (hh : A.handled = none) (hl : s.heap.IsTuple l its.toArray) (hi : IntsAre its ns) (h : ∀ g tk t, (∀ b o, s.heap.get? b = some o → g.get? b = some o) → Q (.int ns.sum t) { s with heap := g, toks := tk }) : wpAny (model prog w) A (call (.builtin "sum") [.ref l]) Q E s := by
  obtain ⟨xs, e⟩ := hi.allInts.items
  have hn : numsOf (intItems xs).toList = ns := by rw [← e]; exact hi.numsOf
  rw [nums_intItems] at hn
  rw [e] at hl
  have lt : l < s.heap.objs.size := by obtain ⟨_, z, _⟩ := hl; exact Heap.lt_size z
  have up : ∀ b o, s.heap.get? b = some o → (s.heap.push { cls := .type "tuple_iterator", data := .fields #[.ref l, .int 0 0] }).get? b = some o := fun b o z => Heap.get?_push_of_some _ z
  refine call_sum_walkG (wpAny_pyIter_tuple hl ⟨_, _, _, _, _, _, numAt xs, rfl, Walks.tuple (A := A.in1) hh _ l (Nat.ne_of_lt lt) (intItems xs), ⟨⟨_, Heap.get?_push_size _ rfl, rfl, rfl⟩, hl.at fun o z => up _ _ z⟩, fun b hb => ?_, (fun _ _ => intItems_at), fun g tk t hk => ?_⟩)
  · show b < (s.heap.push _).objs.size
    rw [Heap.size_push]
    simp only [List.mem_cons, List.not_mem_nil, or_false] at hb
    rcases hb with z | z
    · rw [z]; exact Nat.lt_succ_self _
    · rw [z]; exact Nat.lt_succ_of_lt lt
  · have q := h g tk t fun b o z => hk b o (fun m => by rw [List.mem_singleton] at m; exact absurd (Heap.lt_size z) (by rw [m]; exact Nat.lt_irrefl _)) (up b o z)
    rw [← hn] at q
    rw [preSum_eq, List.take_of_length_le (by simp [intItems])]
    exact q
end
def rSumT (K : PySem.W.Frag) : List V → Hp → VK → Prop := fun vs H Q => ∃ (a : Addr) (ns : List Int), vs = [V.ref a] ∧ SqT K H a (ns.map V.int) ∧ Q (.int ns.sum) H
theorem cr_sumT {X : Cx} (hc : X.calm = true) : CallR X (.builtin "sum") (rSumT X.K) := by
  intro pins s σ H vs us Q I r h
  obtain ⟨a, ns, rfl, hs, q⟩ := h
  obtain ⟨its, rv, hl, _⟩ := I.tuple hs
  rw [Vals.ref1 r]
  exact sum_rawT (I.ok.hd hc) hl rv.ints fun g tk t hk => ⟨.int _, H, I.kept hk, ⟨_, rfl⟩, q⟩
def rSumX (K : PySem.W.Frag) : List V → Hp → VK → Prop := fun xs H Q => rSum K xs H Q ∨ rSumT K xs H Q
theorem cr_sumX {X : Cx} (K : PySem.W.Frag) (hK : X.K = K) (hc : X.calm = true) : CallR X (.builtin "sum") (rSumX K) := by
  subst hK
  exact CallR.or (cr_sum hc) (cr_sumT hc)
theorem cs_sumX {K : PySem.W.Frag} : CSem K (rSumX K) gSum := fun {sx F H vs ds Q R} b h hg k => by
  unfold gSum at hg
  split at hg
  · obtain ⟨v, rfl, h1⟩ := Nws.one h
    obtain ⟨a, xs, rfl, h2, h3⟩ := h1.list b.le
    obtain ⟨ns, e, q⟩ := hg
    rw [intsOf_some e] at h3
    rw [h3.intsV] at h2
    exact .inl ⟨a, ns, rfl, SqL.of h2, k.now b q (.int _)⟩
  · obtain ⟨v, rfl, h1⟩ := Nws.one h
    obtain ⟨a, xs, rfl, h2, h3⟩ := h1.tupleH b.le
    obtain ⟨ns, e, q⟩ := hg
    rw [intsOf_some e] at h3
    rw [h3.intsV] at h2
    exact .inr ⟨a, ns, rfl, h2, k.now b q (.int _)⟩
  · exact hg.elim
end W2

set_option Elab.async false
set_option linter.all false
set_option maxRecDepth 100000
/-! W2AM: sums of keys with numbers (plain): a sum told by what it gives with any worth of keys; added, multiplied. -/
namespace Sm
open PySem PySem.Spec PyProof.Rows L2 W2 PySem.W

def sm {α : Type} (f : α → Int) (l : List α) : Int := (l.map f).sum
section
variable {α β : Type}
theorem sm_nil (f : α → Int) : sm f [] = 0 := rfl
theorem sm_cons (f : α → Int) (x : α) (r : List α) : sm f (x :: r) = f x + sm f r := by unfold sm; rw [List.map_cons, List.sum_cons]
theorem sm_append (f : α → Int) : ∀ (l m : List α), sm f (l ++ m) = sm f l + sm f m
  | [], m => by rw [List.nil_append, sm_nil]; omega
  | x :: r, m => by rw [List.cons_append, sm_cons, sm_cons, sm_append f r m]; omega
theorem sm_congr {f g : α → Int} : ∀ {l : List α}, (∀ x ∈ l, f x = g x) → sm f l = sm g l
  | [], _ => rfl
  | x :: r, h => by rw [sm_cons, sm_cons, h x List.mem_cons_self, sm_congr fun y hy => h y (List.mem_cons_of_mem _ hy)]
theorem sm_zero : ∀ (l : List α), sm (fun _ => 0) l = 0
  | [] => rfl
  | _ :: r => by rw [sm_cons, sm_zero r]; rfl
theorem sm_add (f g : α → Int) : ∀ (l : List α), sm (fun x => f x + g x) l = sm f l + sm g l
  | [] => rfl
  | x :: r => by rw [sm_cons, sm_cons, sm_cons, sm_add f g r]; omega
theorem sm_mul (c : Int) (f : α → Int) : ∀ (l : List α), sm (fun x => c * f x) l = c * sm f l
  | [] => by simp [sm]
  | x :: r => by rw [sm_cons, sm_cons, sm_mul c f r, Int.mul_add]
theorem sm_swap (f : α → β → Int) (m : List β) : ∀ (l : List α), sm (fun x => sm (f x) m) l = sm (fun y => sm (fun x => f x y) l) m
  | [] => by
    rw [sm_nil]
    exact (sm_zero m).symm
  | x :: r => by
    rw [sm_cons, sm_swap f m r, ← sm_add]
    exact sm_congr fun y _ => (sm_cons (fun x => f x y) x r).symm
theorem sm_perm {f : α → Int} {l m : List α} (h : l.Perm m) : sm f l = sm f m := by
  induction h with
  | nil => rfl
  | cons x _ ih => rw [sm_cons, sm_cons, ih]
  | swap x y l => rw [sm_cons, sm_cons, sm_cons, sm_cons]; omega
  | trans _ _ h1 h2 => exact h1.trans h2
theorem sm_map (f : β → Int) (g : α → β) (l : List α) : sm f (l.map g) = sm (fun x => f (g x)) l := by unfold sm; rw [List.map_map]; rfl
end
/-! what a sum gives with a worth f of keys -/
def ev (f : List Int → Int) (s : List LI) : Int := sm (fun p : LI => p.2 * f p.1) s
theorem ev_nil (f : List Int → Int) : ev f [] = 0 := rfl
theorem ev_cons (f : List Int → Int) (p : LI) (r : List LI) : ev f (p :: r) = p.2 * f p.1 + ev f r := sm_cons _ _ _
theorem ev_append (f : List Int → Int) (s t : List LI) : ev f (s ++ t) = ev f s + ev f t := sm_append _ _ _
theorem ev_congr {f g : List Int → Int} {s : List LI} (h : ∀ p ∈ s, f p.1 = g p.1) : ev f s = ev g s := sm_congr fun p hp => by rw [h p hp]
theorem ev_perm {f : List Int → Int} {s t : List LI} (h : s.Perm t) : ev f s = ev f t := sm_perm h
theorem ev_nz (f : List Int → Int) : ∀ (m : List LI), ev f (nz m) = ev f m
  | [] => rfl
  | p :: r => by
    have ih := ev_nz f r
    unfold nz at ih ⊢
    rw [List.filter_cons]
    by_cases c : p.2 = 0
    · rw [if_neg (by simp [c]), ev_cons, ih, c]; omega
    · rw [if_pos (decide_eq_true c), ev_cons, ev_cons, ih]
theorem ev_told (f : List Int → Int) (m : List LI) : ev f (told m) = ev f m := (ev_perm (told_perm m)).trans (ev_nz f m)
theorem ev_over (f : List Int → Int) (k : List Int) (v : Int) : ∀ (m : List LI), Keys m → k ∈ m.map (·.1) → ev f (m.map fun p => if p.1 = k then (p.1, v) else p) = ev f m + (v - val m k) * f k
  | [], _, h => by cases h
  | p :: r, hk, h => by
    have h' := List.nodup_cons.mp (show ((p :: r).map (·.1)).Nodup from hk)
    rw [List.map_cons, ev_cons, ev_cons, val_cons]
    by_cases e : p.1 = k
    · have t : ∀ q ∈ r, (if q.1 = k then (q.1, v) else q) = q := fun q hq => if_neg fun z => h'.1 (by show p.1 ∈ _; rw [e, ← z]; exact List.mem_map_of_mem hq)
      rw [List.map_congr_left t, List.map_id', if_pos e, if_pos e]
      show v * f p.1 + _ = _
      rw [e, Int.sub_mul]
      omega
    · rw [if_neg e, if_neg e]
      have hr : k ∈ r.map (·.1) := by
        rcases List.mem_cons.mp h with z | z
        · exact absurd z.symm e
        · exact z
      rw [ev_over f k v r h'.2 hr]
      omega
theorem ev_put (f : List Int → Int) {m : List LI} (hk : Keys m) (k : List Int) (v : Int) : ev f (put m k v) = ev f m + (v - val m k) * f k := by
  unfold put
  by_cases c : (m.any fun p => decide (p.1 = k)) = true
  · rw [if_pos c]; exact ev_over f k v m hk (any_key.mp c)
  · rw [if_neg c, ev_append, val_none (fun z => c (any_key.mpr z)), ev_cons, ev_nil]
    show _ + (v * f k + 0) = _
    rw [Int.sub_zero]
    omega
theorem ev_plus (f : List Int → Int) {m : List LI} (hk : Keys m) (k : List Int) (v : Int) : ev f (put m k (val m k + v)) = ev f m + v * f k := by
  rw [ev_put f hk]
  have : val m k + v - val m k = v := by omega
  rw [this]
theorem val_ev {m : List LI} (h : Keys m) (k : List Int) : val m k = ev (fun x => if x = k then 1 else 0) m := by
  induction m with
  | nil => rfl
  | cons p r ih =>
    have h' := List.nodup_cons.mp (show ((p :: r).map (·.1)).Nodup from h)
    rw [ev_cons, ← ih h'.2, val_cons]
    by_cases e : p.1 = k
    · rw [if_pos e, if_pos e, val_none (by rw [← e]; exact h'.1)]
      omega
    · rw [if_neg e, if_neg e]
      omega
/-- as told: its own keys, ascending, no nought -/
structure Nf (s : List LI) : Prop where
  keys : Keys s
  told : told s = s
theorem nf_told {m : List LI} (h : Keys m) : Nf (W2.told m) := ⟨told_keys h, told_ext (told_keys h) h fun k => val_told h k⟩
theorem nf_nil : Nf [] := ⟨List.nodup_nil, by show List.mergeSort [] leP = []; exact List.mergeSort_nil⟩
theorem Nf.ext {s t : List LI} (hs : Nf s) (ht : Nf t) (h : ∀ f, ev f s = ev f t) : s = t := by
  rw [← hs.told, ← ht.told]
  exact told_ext hs.keys ht.keys fun k => by rw [val_ev hs.keys, val_ev ht.keys, h]
theorem Nf.nz {s : List LI} (hs : Nf s) {p : LI} (hp : p ∈ s) : p.2 ≠ 0 := by
  rw [← hs.told] at hp
  exact (mem_told.mp hp).2
theorem keys_nil : Keys [] := List.nodup_nil
theorem keys_fold {α : Type} {f : List LI → α → List LI} (h : ∀ m x, Keys m → Keys (f m x)) : ∀ (l : List α) (m : List LI), Keys m → Keys (l.foldl f m)
  | [], _, hm => hm
  | x :: r, m, hm => keys_fold h r (f m x) (h m x hm)

/-! ### added -/
def addIn (t : Int) (m : List LI) (q : LI) : List LI := put m q.1 (val m q.1 + t * q.2)
def addOut (m : List LI) (p : Int × List LI) : List LI := p.2.foldl (addIn p.1) m
def addS (l : List (Int × List LI)) : List LI := told (l.foldl addOut [])
theorem addIn_len (t : Int) (m : List LI) (q : LI) : (addIn t m q).length ≤ m.length + 1 := put_length _ _ _
theorem addOut_len (m : List LI) (p : Int × List LI) : (addOut m p).length ≤ m.length + p.2.length := by
  unfold addOut
  generalize p.2 = l
  induction l generalizing m with
  | nil => exact Nat.le_refl _
  | cons x r ih =>
    have h1 := ih (addIn p.1 m x)
    have h2 := addIn_len p.1 m x
    rw [List.foldl_cons, List.length_cons]
    omega
theorem addIn_keys {t : Int} (m : List LI) (q : LI) (h : Keys m) : Keys (addIn t m q) := put_keys h
theorem addOut_keys (m : List LI) (p : Int × List LI) (h : Keys m) : Keys (addOut m p) := keys_fold addIn_keys _ _ h
theorem ev_addOut (f : List Int → Int) (t : Int) : ∀ (l m : List LI), Keys m → ev f (l.foldl (addIn t) m) = ev f m + t * ev f l
  | [], m, _ => by rw [ev_nil, Int.mul_zero]; exact (Int.add_zero _).symm
  | q :: r, m, h => by
    rw [List.foldl_cons, ev_addOut f t r _ (addIn_keys m q h), ev_cons]
    unfold addIn
    rw [ev_plus f h, Int.mul_add, Int.mul_assoc]
    omega
theorem ev_adds (f : List Int → Int) : ∀ (l : List (Int × List LI)) (m : List LI), Keys m → ev f (l.foldl addOut m) = ev f m + sm (fun p : Int × List LI => p.1 * ev f p.2) l
  | [], m, _ => by rw [sm_nil]; exact (Int.add_zero _).symm
  | p :: r, m, h => by
    rw [List.foldl_cons, ev_adds f r _ (addOut_keys m p h), sm_cons]
    unfold addOut
    rw [ev_addOut f p.1 p.2 m h]
    omega
theorem nf_addS (l : List (Int × List LI)) : Nf (addS l) := nf_told (keys_fold addOut_keys _ _ keys_nil)
theorem ev_addS (f : List Int → Int) (l : List (Int × List LI)) : ev f (addS l) = sm (fun p : Int × List LI => p.1 * ev f p.2) l := by
  unfold addS
  rw [ev_told, ev_adds f l [] keys_nil, ev_nil, Int.zero_add]

/-! ### multiplied, as keys are put together -/
abbrev Op := List Int → List Int → Option (List Int)
def mulIn (op : Op) (p : LI) (m : List LI) (q : LI) : List LI := match op p.1 q.1 with
  | some k => put m k (val m k + p.2 * q.2)
  | none => m
def mulOut (op : Op) (t : List LI) (m : List LI) (p : LI) : List LI := t.foldl (mulIn op p) m
def mulS (op : Op) (s t : List LI) : List LI := told (s.foldl (mulOut op t) [])
def fo (f : List Int → Int) : Option (List Int) → Int
  | some k => f k
  | none => 0
theorem mulIn_some {op : Op} {p q : LI} {m : List LI} {k : List Int} (h : op p.1 q.1 = some k) : mulIn op p m q = put m k (val m k + p.2 * q.2) := by unfold mulIn; rw [h]
theorem mulIn_none {op : Op} {p q : LI} {m : List LI} (h : op p.1 q.1 = none) : mulIn op p m q = m := by unfold mulIn; rw [h]
theorem mulIn_len {op : Op} (p : LI) (m : List LI) (q : LI) : (mulIn op p m q).length ≤ m.length + 1 := by
  unfold mulIn
  split
  · exact put_length _ _ _
  · omega
theorem mulOut_len {op : Op} (t : List LI) (m : List LI) (p : LI) : (mulOut op t m p).length ≤ m.length + t.length := by
  unfold mulOut
  induction t generalizing m with
  | nil => exact Nat.le_refl _
  | cons x r ih =>
    have h1 := ih (mulIn op p m x)
    have h2 := mulIn_len (op := op) p m x
    rw [List.foldl_cons, List.length_cons]
    omega
theorem mulIn_keys {op : Op} {p : LI} (m : List LI) (q : LI) (h : Keys m) : Keys (mulIn op p m q) := by
  unfold mulIn
  split
  · exact put_keys h
  · exact h
theorem mulOut_keys {op : Op} {t : List LI} (m : List LI) (p : LI) (h : Keys m) : Keys (mulOut op t m p) := keys_fold mulIn_keys _ _ h
theorem ev_mulOut (op : Op) (f : List Int → Int) (p : LI) : ∀ (t m : List LI), Keys m → ev f (t.foldl (mulIn op p) m) = ev f m + p.2 * ev (fun b => fo f (op p.1 b)) t
  | [], m, _ => by rw [ev_nil, Int.mul_zero]; exact (Int.add_zero _).symm
  | q :: r, m, h => by
    rw [List.foldl_cons, ev_mulOut op f p r _ (mulIn_keys m q h), ev_cons, Int.mul_add]
    cases e : op p.1 q.1 with
    | none =>
      rw [mulIn_none e]
      show _ = ev f m + (p.2 * (q.2 * 0) + _)
      rw [Int.mul_zero, Int.mul_zero, Int.zero_add]
    | some k =>
      rw [mulIn_some e, ev_plus f h]
      show _ = ev f m + (p.2 * (q.2 * f k) + _)
      rw [Int.mul_assoc]
      omega
theorem ev_mulA (op : Op) (f : List Int → Int) (t : List LI) : ∀ (s m : List LI), Keys m → ev f (s.foldl (mulOut op t) m) = ev f m + ev (fun a => ev (fun b => fo f (op a b)) t) s
  | [], m, _ => by rw [ev_nil]; exact (Int.add_zero _).symm
  | p :: r, m, h => by
    rw [List.foldl_cons, ev_mulA op f t r _ (mulOut_keys m p h), ev_cons]
    unfold mulOut
    rw [ev_mulOut op f p t m h]
    omega
theorem nf_mul (op : Op) (s t : List LI) : Nf (mulS op s t) := nf_told (keys_fold mulOut_keys _ _ keys_nil)
theorem ev_mul (op : Op) (f : List Int → Int) (s t : List LI) : ev f (mulS op s t) = ev (fun a => ev (fun b => fo f (op a b)) t) s := by
  unfold mulS
  rw [ev_told, ev_mulA op f t s [] keys_nil, ev_nil, Int.zero_add]
theorem ev_swap (g : List Int → List Int → Int) (s t : List LI) : ev (fun a => ev (fun b => g a b) t) s = ev (fun b => ev (fun a => g a b) s) t := by
  unfold ev
  have e1 : ∀ p : LI, p.2 * sm (fun q : LI => q.2 * g p.1 q.1) t = sm (fun q : LI => p.2 * (q.2 * g p.1 q.1)) t := fun p => (sm_mul _ _ _).symm
  have e2 : ∀ q : LI, q.2 * sm (fun p : LI => p.2 * g p.1 q.1) s = sm (fun p : LI => q.2 * (p.2 * g p.1 q.1)) s := fun q => (sm_mul _ _ _).symm
  rw [sm_congr fun p _ => e1 p, sm_congr fun q _ => e2 q, sm_swap]
  exact sm_congr fun q _ => sm_congr fun p _ => by rw [Int.mul_left_comm]
theorem mul_comm {op : Op} {s t : List LI} (h : ∀ p ∈ s, ∀ q ∈ t, op p.1 q.1 = op q.1 p.1) : mulS op s t = mulS op t s := by
  refine (nf_mul op s t).ext (nf_mul op t s) fun f => ?_
  rw [ev_mul, ev_mul, ev_swap]
  exact ev_congr fun q hq => ev_congr fun p hp => by rw [h p hp q hq]
theorem fo_ev (f : List Int → Int) (op : Op) (u : List LI) : ∀ o : Option (List Int), fo (fun d => ev (fun c => fo f (op d c)) u) o = ev (fun c => fo f (o.bind fun d => op d c)) u
  | some d => rfl
  | none => (show (0 : Int) = ev (fun _ => 0) u from by
      unfold ev
      rw [sm_congr (g := fun _ => 0) fun p _ => Int.mul_zero _, sm_zero])
theorem fo_bind (f : List Int → Int) (g : List Int → Option (List Int)) : ∀ o : Option (List Int), fo (fun d => fo f (g d)) o = fo f (o.bind g)
  | some _ => rfl
  | none => rfl
theorem mul_assoc {op : Op} {s t u : List LI} (h : ∀ p ∈ s, ∀ q ∈ t, ∀ r ∈ u, ((op p.1 q.1).bind fun d => op d r.1) = (op q.1 r.1).bind fun d => op p.1 d) : mulS op (mulS op s t) u = mulS op s (mulS op t u) := by
  refine (nf_mul op _ _).ext (nf_mul op _ _) fun f => ?_
  rw [ev_mul, ev_mul, ev_mul]
  refine ev_congr fun p hp => ?_
  rw [ev_mul]
  refine ev_congr fun q hq => ?_
  rw [fo_ev]
  refine ev_congr fun r hr => ?_
  rw [fo_bind, h p hp q hq r hr]
theorem mul_adds (op : Op) (l : List (Int × List LI)) (u : List LI) : mulS op (addS l) u = addS (l.map fun p => (p.1, mulS op p.2 u)) := by
  refine (nf_mul op _ _).ext (nf_addS _) fun f => ?_
  rw [ev_mul, ev_addS, ev_addS, sm_map]
  exact sm_congr fun p _ => by rw [ev_mul]

/-! ### how great -/
def nrm (s : List LI) : Nat := (s.map fun p : LI => p.2.natAbs).sum
theorem nrm_nil : nrm [] = 0 := rfl
theorem nrm_cons (p : LI) (r : List LI) : nrm (p :: r) = p.2.natAbs + nrm r := by unfold nrm; rw [List.map_cons, List.sum_cons]
theorem nrm_append : ∀ (s t : List LI), nrm (s ++ t) = nrm s + nrm t
  | [], t => by rw [List.nil_append, nrm_nil]; omega
  | p :: r, t => by rw [List.cons_append, nrm_cons, nrm_cons, nrm_append r t]; omega
theorem nrm_mem {p : LI} : ∀ {s : List LI}, p ∈ s → p.2.natAbs ≤ nrm s
  | q :: r, h => by
    rw [nrm_cons]
    rcases List.mem_cons.mp h with e | e
    · subst e; omega
    · have := nrm_mem e; omega
theorem nrm_perm {s t : List LI} (h : s.Perm t) : nrm s = nrm t := (h.map _).sum_nat
theorem nrm_filter (f : LI → Bool) : ∀ (s : List LI), nrm (s.filter f) ≤ nrm s
  | [] => Nat.le_refl _
  | p :: r => by
    rw [List.filter_cons, nrm_cons]
    have := nrm_filter f r
    split
    · rw [nrm_cons]; omega
    · omega
theorem nrm_told (m : List LI) : nrm (told m) ≤ nrm m := by
  rw [nrm_perm (told_perm m)]
  exact nrm_filter _ m
theorem nrm_over (k : List Int) (v : Int) : ∀ (m : List LI), Keys m → k ∈ m.map (·.1) → nrm (m.map fun p => if p.1 = k then (p.1, v) else p) + (val m k).natAbs = nrm m + v.natAbs
  | [], _, h => by cases h
  | p :: r, hk, h => by
    have h' := List.nodup_cons.mp (show ((p :: r).map (·.1)).Nodup from hk)
    rw [List.map_cons, nrm_cons, nrm_cons, val_cons]
    by_cases e : p.1 = k
    · have t : ∀ q ∈ r, (if q.1 = k then (q.1, v) else q) = q := fun q hq => if_neg fun z => h'.1 (by show p.1 ∈ _; rw [e, ← z]; exact List.mem_map_of_mem hq)
      rw [List.map_congr_left t, List.map_id', if_pos e, if_pos e]
      show v.natAbs + _ + _ = _
      omega
    · rw [if_neg e, if_neg e]
      have hr : k ∈ r.map (·.1) := by
        rcases List.mem_cons.mp h with z | z
        · exact absurd z.symm e
        · exact z
      have := nrm_over k v r h'.2 hr
      omega
theorem nrm_plus {m : List LI} (hk : Keys m) (k : List Int) (v : Int) : nrm (put m k (val m k + v)) ≤ nrm m + v.natAbs := by
  unfold put
  by_cases c : (m.any fun p => decide (p.1 = k)) = true
  · rw [if_pos c]
    have := nrm_over k (val m k + v) m hk (any_key.mp c)
    omega
  · rw [if_neg c, nrm_append, val_none (fun z => c (any_key.mpr z)), nrm_cons, nrm_nil]
    show _ + ((0 + v).natAbs + 0) ≤ _
    omega
theorem nrm_len : ∀ {s : List LI}, (∀ p ∈ s, p.2 ≠ 0) → s.length ≤ nrm s
  | [], _ => Nat.le_refl _
  | p :: r, h => by
    rw [nrm_cons, List.length_cons]
    have h1 := h p List.mem_cons_self
    have := nrm_len fun q hq => h q (List.mem_cons_of_mem _ hq)
    omega
theorem Nf.len {s : List LI} (h : Nf s) : s.length ≤ nrm s := nrm_len fun _ hp => h.nz hp
theorem nrm_addOut (t : Int) : ∀ (l m : List LI), Keys m → nrm (l.foldl (addIn t) m) ≤ nrm m + t.natAbs * nrm l
  | [], m, _ => by rw [nrm_nil]; exact Nat.le_refl _
  | q :: r, m, h => by
    rw [List.foldl_cons, nrm_cons, Nat.mul_add]
    have h1 := nrm_addOut t r _ (addIn_keys (t := t) m q h)
    have h2 := nrm_plus h q.1 (t * q.2)
    rw [Int.natAbs_mul] at h2
    unfold addIn at h1 ⊢
    omega
theorem nrm_adds : ∀ (l : List (Int × List LI)) (m : List LI), Keys m → nrm (l.foldl addOut m) ≤ nrm m + (l.map fun p => p.1.natAbs * nrm p.2).sum
  | [], m, _ => Nat.le_refl _
  | p :: r, m, h => by
    rw [List.foldl_cons, List.map_cons, List.sum_cons]
    have h1 := nrm_adds r _ (addOut_keys m p h)
    have h2 := nrm_addOut p.1 p.2 m h
    unfold addOut at h1 ⊢
    omega
theorem nrm_addS (l : List (Int × List LI)) : nrm (addS l) ≤ (l.map fun p => p.1.natAbs * nrm p.2).sum := by
  have h1 := nrm_told (l.foldl addOut [])
  have h2 := nrm_adds l [] keys_nil
  rw [nrm_nil] at h2
  unfold addS
  omega
theorem nrm_mulOut (op : Op) (p : LI) : ∀ (t m : List LI), Keys m → nrm (t.foldl (mulIn op p) m) ≤ nrm m + p.2.natAbs * nrm t
  | [], m, _ => by rw [nrm_nil]; exact Nat.le_refl _
  | q :: r, m, h => by
    rw [List.foldl_cons, nrm_cons, Nat.mul_add]
    have h1 := nrm_mulOut op p r _ (mulIn_keys (op := op) (p := p) m q h)
    cases e : op p.1 q.1 with
    | none => rw [mulIn_none e] at h1 ⊢; omega
    | some k =>
      rw [mulIn_some e] at h1 ⊢
      have h2 := nrm_plus h k (p.2 * q.2)
      rw [Int.natAbs_mul] at h2
      omega
theorem nrm_mulA (op : Op) (t : List LI) : ∀ (s m : List LI), Keys m → nrm (s.foldl (mulOut op t) m) ≤ nrm m + nrm s * nrm t
  | [], m, _ => by rw [nrm_nil]; show nrm m ≤ _; omega
  | p :: r, m, h => by
    rw [List.foldl_cons, nrm_cons, Nat.add_mul]
    have h1 := nrm_mulA op t r _ (mulOut_keys (op := op) (t := t) m p h)
    have h2 := nrm_mulOut op p t m h
    unfold mulOut at h1 ⊢
    omega
theorem nrm_mul (op : Op) (s t : List LI) : nrm (mulS op s t) ≤ nrm s * nrm t := by
  have h1 := nrm_told (s.foldl (mulOut op t) [])
  have h2 := nrm_mulA op t s [] keys_nil
  rw [nrm_nil] at h2
  unfold mulS
  omega
/-! which keys come -/
theorem put_mem {m : List LI} {k : List Int} {v : Int} {p : LI} (h : p ∈ put m k v) : p.1 = k ∨ p ∈ m := by
  unfold put at h
  split at h
  · obtain ⟨q, hq, e⟩ := List.mem_map.mp h
    by_cases c : q.1 = k
    · rw [if_pos c] at e
      exact .inl (by rw [← e]; exact c)
    · rw [if_neg c] at e
      exact .inr (by rw [← e]; exact hq)
  · rcases List.mem_append.mp h with h | h
    · exact .inr h
    · have : p = (k, v) := by simpa using h
      exact .inl (by rw [this])
theorem keys_of {α : Type} {P : List Int → Prop} {f : List LI → α → List LI} {l : List α} : ∀ (m : List LI), (∀ m : List LI, ∀ x ∈ l, (∀ p ∈ m, P p.1) → ∀ p ∈ f m x, P p.1) → (∀ p ∈ m, P p.1) → ∀ p ∈ l.foldl f m, P p.1 := by
  induction l with
  | nil => intro m _ hm; exact hm
  | cons x r ih =>
    intro m h hm
    rw [List.foldl_cons]
    exact ih (f m x) (fun m y hy => h m y (List.mem_cons_of_mem _ hy)) (h m x List.mem_cons_self hm)
theorem mul_mem {op : Op} {P : List Int → Prop} {s t : List LI} (h : ∀ p ∈ s, ∀ q ∈ t, ∀ k, op p.1 q.1 = some k → P k) : ∀ p ∈ mulS op s t, P p.1 := by
  intro p hp
  have hp' := (mem_told.mp hp).1
  refine keys_of (P := P) [] (fun m x hx hm => ?_) (fun _ h => by cases h) p hp'
  unfold mulOut
  refine keys_of (P := P) m (fun m y hy hm => ?_) hm
  intro z hz
  cases e : op x.1 y.1 with
  | none => rw [mulIn_none e] at hz; exact hm z hz
  | some k =>
    rw [mulIn_some e] at hz
    rcases put_mem hz with e' | e'
    · rw [e']; exact h x hx y hy k e
    · exact hm z e'
theorem adds_mem {P : List Int → Prop} {l : List (Int × List LI)} (h : ∀ p ∈ l, ∀ q ∈ p.2, P q.1) : ∀ p ∈ addS l, P p.1 := by
  intro p hp
  have hp' := (mem_told.mp hp).1
  refine keys_of (P := P) [] (fun m x hx hm => ?_) (fun _ h => by cases h) p hp'
  unfold addOut
  refine keys_of (P := P) m (fun m y hy hm => ?_) hm
  intro z hz
  rcases put_mem hz with e' | e'
  · rw [e']; exact h x hx y hy
  · exact hm z e'
/-! dict(a told sum) -/
theorem intsK_map : ∀ l : List Int, intsK (l.map PyData.int) = some l
  | [] => rfl
  | x :: l => by
    show (intsK (l.map PyData.int)).map (x :: ·) = _
    rw [intsK_map l]
    rfl
theorem pairs_rs : ∀ s : List LI, pairsT (s.map W2.prD) = some (s.map fun p => (p.1, PyData.int p.2))
  | [] => rfl
  | p :: s => by
    show (match intsK (p.1.map PyData.int), pairsT (s.map W2.prD) with | some k, some l => some ((k, PyData.int p.2) :: l) | _, _ => none) = _
    rw [intsK_map, pairs_rs s]
    rfl
theorem kI_int (l : List Int) : (kI l).map kD = l.map PyData.int := by unfold kI; rw [List.map_map]; rfl
theorem merge_rs : ∀ (s m : List LI), (s.map fun p : LI => (p.1, PyData.int p.2)).foldl (fun acc kv => dPut acc (.tuple ((kI kv.1).map kD)) kv.2) (m.map mpE) = (s.foldl (fun m p => put m p.1 p.2) m).map mpE
  | [], m => rfl
  | p :: s, m => by
    rw [List.map_cons, List.foldl_cons, List.foldl_cons, ← merge_rs s, kI_int]
    show List.foldl _ (dPut (m.map mpE) (lotD p.1) (.int p.2)) _ = _
    rw [dPut_mp]
theorem put_new {m : List LI} {k : List Int} {v : Int} (h : k ∉ m.map (·.1)) : put m k v = m ++ [(k, v)] := by
  unfold put
  rw [if_neg (fun z => h (any_key.mp z))]
theorem put_all : ∀ (s m : List LI), Keys (m ++ s) → s.foldl (fun m p => put m p.1 p.2) m = m ++ s
  | [], m, _ => by rw [List.append_nil]; rfl
  | p :: s, m, h => by
    have h1 : p.1 ∉ m.map (·.1) := fun z => by
      unfold Keys at h
      rw [List.map_append, List.nodup_append] at h
      exact h.2.2 _ z _ (by rw [List.map_cons]; exact List.mem_cons_self) rfl
    rw [List.foldl_cons, put_new h1, put_all s _ (by rw [List.append_assoc]; exact h), List.append_assoc]
    rfl
theorem dict_rs {s : List LI} (h : Keys s) {Q : W2.D → Prop} (q : Q (mpD s)) : gDictX [rsD s] Q := by
  refine .inr (.inl ⟨s.map W2.prD, _, .inr rfl, pairs_rs s, ?_⟩)
  have e := merge_rs s []
  rw [put_all s [] h] at e
  show Q (.dict (mergeT _))
  unfold mergeT
  rw [show ([] : List (W2.D × W2.D)) = ([] : List LI).map mpE from rfl, e]
  exact q
end Sm

set_option Elab.async false
set_option linter.all false
set_option maxRecDepth 100000
set_option autoImplicit false
/-! W2AN: values of all kinds that can be shown: how long, how deep; lists of unlike things; promises that are never asked. -/
namespace W2
open PySem PySem.Spec PyProof.Rows L2 PySem.W

/-- can be shown: at most k deep, at most B signs -/
structure Fn (k B : Nat) (d : D) : Prop where
  can : canE d = true
  shw : d.showable = true
  dep : d.depth ≤ k
  len : d.shown.length ≤ B
theorem Fn.mono {k B k' B' : Nat} {d : D} (h : Fn k B d) (hk : k ≤ k') (hB : B ≤ B') : Fn k' B' d := ⟨h.can, h.shw, Nat.le_trans h.dep hk, Nat.le_trans h.len hB⟩
theorem Fn.repr {k B : Nat} {d : D} (h : Fn k B d) (hk : k ≤ 64) (hB : B ≤ 16777216) : reprOk d = true := reprOk_ofE h.can h.shw (Nat.le_trans h.dep hk) (Nat.le_trans h.len hB)
theorem canE_all {ds : List D} : canEAll ds = true ↔ ∀ d ∈ ds, canE d = true := by
  induction ds with
  | nil => exact ⟨fun _ _ h => (nomatch h), fun _ => rfl⟩
  | cons x r ih =>
    have e : canEAll (x :: r) = (canE x && canEAll r) := rfl
    rw [e, Bool.and_eq_true, ih]
    simp
theorem show_all {ds : List D} : PyData.showableAll ds = true ↔ ∀ d ∈ ds, d.showable = true := by
  induction ds with
  | nil => exact ⟨fun _ _ h => (nomatch h), fun _ => rfl⟩
  | cons x r ih =>
    have e : PyData.showableAll (x :: r) = (x.showable && PyData.showableAll r) := rfl
    rw [e, Bool.and_eq_true, ih]
    simp
theorem depth_all {ds : List D} {n : Nat} : PyData.depthAll ds ≤ n ↔ ∀ d ∈ ds, d.depth ≤ n := by
  induction ds with
  | nil => exact ⟨fun _ _ h => (nomatch h), fun _ => Nat.zero_le _⟩
  | cons x r ih =>
    have e : PyData.depthAll (x :: r) = max x.depth (PyData.depthAll r) := rfl
    rw [e, Nat.max_le, ih]
    simp
theorem piled_all {ds : List D} {B w : Nat} (h : ∀ d ∈ ds, d.shown.length ≤ B) (hw : ds.length ≤ w) : piled (PyData.shownAll ds) ≤ w * (B + 2) := by
  have h1 : piled (PyData.shownAll (ds.map id)) ≤ ds.length * (B + 2) := piled_map (e := id) h
  rw [List.map_id] at h1
  exact Nat.le_trans h1 (Nat.mul_le_mul_right _ hw)
theorem piled_has {ds : List D} {d : D} (h : d ∈ ds) : d.shown.length + 2 ≤ piled (PyData.shownAll ds) := by
  induction ds with
  | nil => cases h
  | cons x r ih =>
    show _ ≤ piled (x.shown :: PyData.shownAll r)
    rw [piled_cons]
    rcases List.mem_cons.mp h with e | e
    · subst e; omega
    · have := ih e; omega
theorem piled_len : ∀ (ds : List D), ds.length * 2 ≤ piled (PyData.shownAll ds)
  | [] => Nat.zero_le _
  | x :: r => by
    show _ ≤ piled (x.shown :: PyData.shownAll r)
    rw [piled_cons, List.length_cons]
    have := piled_len r
    omega
theorem piled_list (ds : List D) : piled (PyData.shownAll ds) ≤ (PyData.list ds).shown.length := by
  show _ ≤ (listText (PyData.shownAll ds)).length
  unfold listText
  rw [strLen_append]
  cases PyData.shownAll ds with
  | nil => exact Nat.zero_le _
  | cons t r =>
    show _ ≤ (textFrom 1 ("[" ++ "" ++ t) r).length + _
    rw [textFrom_length_pos r 1 _ (by decide), piled_cons, strLen_append]
    have e2 : (("[" : Str) ++ ((("" : String) : Str))).length = 1 := rfl
    have e1 : ((("]" : String) : Str)).length = 1 := rfl
    rw [e2, e1]
    omega
theorem piled_tuple (ds : List D) : piled (PyData.shownAll ds) ≤ (PyData.tuple ds).shown.length := piled_le_tupleText _
/-! rows of such -/
theorem Fn.tup {k B w : Nat} {ds : List D} (hw : ds.length ≤ w) (h : ∀ d ∈ ds, Fn k B d) : Fn (k + 1) (w * (B + 2) + 3) (.tuple ds) where
  can := canE_all.mpr fun d hd => (h d hd).can
  shw := show_all.mpr fun d hd => (h d hd).shw
  dep := Nat.succ_le_succ (depth_all.mpr fun d hd => (h d hd).dep)
  len := by
    have h1 := sh_tuple ds
    have h2 := piled_all (fun d hd => (h d hd).len) hw
    omega
theorem Fn.lst {k B w : Nat} {ds : List D} (hw : ds.length ≤ w) (h : ∀ d ∈ ds, Fn k B d) : Fn (k + 1) (w * (B + 2) + 3) (.list ds) where
  can := canE_all.mpr fun d hd => (h d hd).can
  shw := show_all.mpr fun d hd => (h d hd).shw
  dep := Nat.succ_le_succ (depth_all.mpr fun d hd => (h d hd).dep)
  len := by
    have h1 := sh_list ds
    have h2 := piled_all (fun d hd => (h d hd).len) hw
    omega
theorem Fn.mem {k B : Nat} {ds : List D} (h : Fn k B (.tuple ds)) {d : D} (hd : d ∈ ds) : Fn k B d where
  can := canE_all.mp h.can d hd
  shw := show_all.mp h.shw d hd
  dep := depth_all.mp (Nat.le_trans (Nat.le_succ _) h.dep) d hd
  len := by
    have h1 := piled_has hd
    have h2 := piled_tuple ds
    have := h.len
    omega
theorem Fn.count {k B : Nat} {ds : List D} (h : Fn k B (.tuple ds)) : ds.length ≤ B := by
  have h1 := piled_len ds
  have h2 := piled_tuple ds
  have := h.len
  omega
theorem sh_intk {i : Int} {k : Nat} (hk : 0 < k) (h : i.natAbs < 10 ^ k) : (PyData.int i).shown.length ≤ k + 1 := by
  show (Str.ofString (toString i)).length ≤ _
  rw [ofString_len]
  cases i with
  | ofNat m =>
    have := (Nat.length_repr_le_iff hk).mpr (show m < 10 ^ k from h)
    show (Nat.repr m).length ≤ _
    omega
  | negSucc m =>
    have := (Nat.length_repr_le_iff hk).mpr (show m + 1 < 10 ^ k from h)
    show ("-" ++ Nat.repr (m + 1)).length ≤ _
    rw [String.length_append]
    have h1 : "-".length = 1 := by rfl
    omega
theorem Fn.int {i : Int} {k : Nat} (hk : 0 < k) (hk' : k ≤ 400) (h : i.natAbs < 10 ^ k) : Fn 0 (k + 1) (.int i) where
  can := rfl
  shw := by
    show decide (i.natAbs.log2 < 1920) = true
    by_cases c : i.natAbs = 0
    · rw [c]; decide
    · refine decide_eq_true ((Nat.log2_lt c).mpr (Nat.lt_of_lt_of_le h ?_))
      refine Nat.le_trans (Nat.pow_le_pow_right (by decide) hk') ?_
      decide +kernel
  dep := Nat.zero_le _
  len := sh_intk hk h
theorem Fn.none {k : Nat} : Fn k 5 .none := ⟨rfl, rfl, Nat.zero_le _, by decide⟩
theorem Fn.bool {k : Nat} (b : Bool) : Fn k 5 (.bool b) := ⟨rfl, rfl, Nat.zero_le _, by cases b <;> decide⟩
/-! an answer True or False shown -/
theorem repr_bool (b : Bool) : reprOk (.bool b) = true := (Fn.bool (k := 0) b).repr (by decide) (by decide)
/-! lists of things against the empty list -/
theorem eqv_nil (ds : List D) : PyData.eqv (.list ds) (.list []) = ds.isEmpty := by
  cases ds <;> rfl
/-! a promise that is never asked -/
theorem fnG_never {P : Program} {w : World} {K : PySem.W.Frag} {mg : Str → Option Value} {base : Heap} {k : Nat} {f : Addr} {fd : FuncData} {ps : List Str} {n : Nat} : FnG P w K mg base k f fd ps (spS K n fun _ _ => False) :=
  ⟨fun _ _ _ _ ⟨_, _, _, _, _, _, _, _, _, _, z, _⟩ => z.elim, fun _ _ _ _ _ _ _ _ _ _ _ _ _ ⟨_, _, _, _, _, _, _, _, _, _, z, _⟩ => z.elim⟩
/-! tests -/
theorem ifT {b : Bool} {P Q : Prop} (h : b = true) (p : P) : if b = true then P else Q := by rw [if_pos h]; exact p
theorem ifF {b : Bool} {P Q : Prop} (h : b = false) (q : Q) : if b = true then P else Q := by rw [if_neg (by rw [h]; decide)]; exact q
theorem optR {b : Bool} {x : D} {R : Option D → Prop} (h : R (if b = true then some x else none)) : if b = true then R (some x) else R none := by
  cases b with
  | true => exact h
  | false => exact h
theorem optRn {b : Bool} {x : D} {R : Option D → Prop} (h : R (if b = true then some x else none)) : if (!b) = true then R none else R (some x) := by
  cases b with
  | true => exact h
  | false => exact h
theorem empty_all (f : D → Bool) (xs : List D) : (xs.filterMap fun x => if (!f x) = true then some x else none).isEmpty = xs.all f := by
  induction xs with
  | nil => rfl
  | cons x r ih =>
    rw [List.filterMap_cons, List.all_cons]
    cases f x with
    | true => exact ih
    | false => rfl
theorem empty_any (f : D → Bool) (xs : List D) : (xs.filterMap fun x => if f x = true then some x else none).isEmpty = xs.all fun x => !f x := by
  induction xs with
  | nil => rfl
  | cons x r ih =>
    rw [List.filterMap_cons, List.all_cons]
    cases f x with
    | true => rfl
    | false => exact ih
theorem le_line16 {n : Nat} (h : n ≤ 16000000) : n ≤ sizeLine := Nat.le_trans h (by rw [sizeLine_eq]; decide)
/-! types -/
def isTupB : D → Bool
  | .tuple _ => true
  | _ => false
def isIntB : D → Bool
  | .int _ => true
  | _ => false
theorem isi_tuple (d : D) : isiT d "tuple" = isTupB d := by cases d <;> simp [isiT, tyN, isTupB]
theorem isi_int (d : D) : (isiT d "int" && !isiT d "bool") = isIntB d := by cases d <;> simp [isiT, tyN, isIntB]
/-- isinstance(x, int) and not isinstance(x, bool) -/
theorem num_go {d : D} {Q : D → Prop} (q : Q (.bool (isIntB d))) : (match PyData.bool (isiT d "int") with
    | .bool true => (match PyData.bool (isiT d "bool") with | .bool b => Q (.bool (!b)) | _ => False)
    | .bool false => Q (.bool false)
    | _ => False) := by
  rw [← isi_int] at q
  cases e : isiT d "int" with
  | true => rw [e] at q; exact q
  | false => rw [e] at q; exact q
/-! cuts -/
theorem cutT {α : Type} (e : α → D) (l : List α) (k : Nat) : W2.cutD (l.map e) none (some (k : Int)) = (l.take k).map e := by
  unfold W2.cutD
  rw [HT.sIx_none, HT.sIx_nat, List.length_map, List.drop_zero, List.map_take, Nat.sub_zero]
  by_cases h : k ≤ l.length
  · rw [Nat.min_eq_left h]
  · rw [Nat.min_eq_right (by omega), List.take_of_length_le (by rw [List.length_map]; omega), List.take_of_length_le (by rw [List.length_map]; omega)]
theorem cutDr {α : Type} (e : α → D) (l : List α) (k : Nat) : W2.cutD (l.map e) (some (k : Int)) none = (l.drop k).map e := by
  unfold W2.cutD
  rw [HT.sIx_none, HT.sIx_nat, List.length_map, List.map_drop]
  by_cases h : k ≤ l.length
  · rw [Nat.min_eq_left h, List.take_of_length_le]
    rw [List.length_drop, List.length_map]
    exact Nat.le_refl _
  · rw [Nat.min_eq_right (by omega), List.drop_of_length_le (by rw [List.length_map]; exact Nat.le_refl _), List.drop_of_length_le (by rw [List.length_map]; omega), List.take_nil]
theorem cut_any (ds : List D) (lo hi : Option Int) : (W2.cutD ds lo hi).length ≤ ds.length ∧ ∀ x ∈ W2.cutD ds lo hi, x ∈ ds := by
  unfold W2.cutD
  exact ⟨by rw [List.length_take, List.length_drop]; omega, fun x hx => List.mem_of_mem_drop (List.mem_of_mem_take hx)⟩
/-! a loop that ends at the first that is not right -/
theorem for_all (ok : D → Bool) (r : D) (I : En → Prop) {g : WG} {body : WS} {W : WEnds} : ∀ (xs : List D) (η : En), I η →
    (∀ x ∈ xs, ∀ η, I η → ∀ Kc : En → Prop, (ok x = true → ∀ η', I η' → Kc η') → (ok x = false → W.rt r) → g x η fun η1 => body { nx := Kc, rt := W.rt, bk := W.nx, ct := Kc } η1) →
    (xs.all ok = true → ∀ η', I η' → W.nx η') → (xs.all ok = false → W.rt r) → forGo g body W xs η
  | [], η, hi, _, hend, _ => hend rfl η hi
  | x :: xs, η, hi, h, hend, hbad => h x List.mem_cons_self η hi _
      (fun hx η' hi' => for_all ok r I xs η' hi' (fun y hy => h y (List.mem_cons_of_mem _ hy)) (fun z => hend (by rw [List.all_cons, hx, z]; rfl)) (fun z => hbad (by rw [List.all_cons, hx, z]; rfl)))
      (fun hx => hbad (by rw [List.all_cons, hx]; rfl))
/-! a comprehension over anything -/
theorem lc_all (f : D → Option D) {g : WG} {tt : WT} {we : WE} {η : En} {Q : D → Prop} (xs : List D)
    (h : ∀ x ∈ xs, ∀ R : Option D → Prop, R (f x) → g x η fun η1 => tt η1 fun b => if b = true then we η1 fun y => R (some y) else R none)
    (hl : xs.length ≤ sizeLine) (q : Q (.list (xs.filterMap f))) : lcGo g tt we η xs [] Q := by
  have := lc_fm (e := fun x : D => x) (g := g) (tt := tt) (we := we) (η := η) f xs h hl q
  rw [List.map_id'] at this
  exact this
/-! the places, from 1 on, where something is wrong -/
def adjB (b : Nat → Bool) (n : Nat) : List D := (List.range n).filterMap fun j => if b j = true then some (.int (1 + (j : Int))) else none
theorem adj_go (b : Nat → Bool) {g : WG} {tt : WT} {we : WE} {η : En} {Q : D → Prop} {n : Nat} (hn : n ≤ 16000000)
    (h : ∀ j, j < n → ∀ R : Option D → Prop, R (if b j = true then some (.int (1 + (j : Int))) else none) → g (.int (1 + (j : Int))) η fun η1 => tt η1 fun k => if k = true then we η1 fun y => R (some y) else R none)
    (q : Q (.list (adjB b n))) : lcGo g tt we η (rangeD 1 n) [] Q := by
  unfold rangeD
  exact lc_fm (e := fun k : Nat => PyData.int (1 + (k : Int))) (fun j => if b j = true then some (.int (1 + (j : Int))) else none) (List.range n) (fun j hj => h j (List.mem_range.mp hj)) (le_line16 (by rw [List.length_range]; exact hn)) q
/-- 0 <= x < m -/
theorem chain_in {wa wb wc : WE} {η : En} {i m : Int} {Q : D → Prop} (ha : ∀ P : D → Prop, P (.int 0) → wa η P) (hb : ∀ P : D → Prop, P (.int i) → wb η P) (hc : ∀ P : D → Prop, P (.int m) → wc η P)
    (q : Q (.bool (decide (0 ≤ i) && decide (i < m)))) : wChain gLeA gLtI wa wb wc η Q := by
  refine ha _ (hb _ ?_)
  have key : ∀ F : D → Prop, F (.bool (decide (0 ≤ i))) → gLeA (.int 0) (.int i) F := fun _ h => h
  refine key _ ?_
  generalize decide (0 ≤ i) = b at q
  cases b with
  | false => exact q
  | true => exact hc _ q
theorem str_ne (s : Str) : (!PyData.eqv (.str s) (.str s)) = false := by
  show (!(s == s)) = false
  rw [beq_self_eq_true]; rfl
/-- a loop that keeps I -/
theorem for_each (I : En → Prop) {g : WG} {body : WS} {W : WEnds} : ∀ (xs : List D) (η : En), I η →
    (∀ x ∈ xs, ∀ η, I η → ∀ Kc : En → Prop, (∀ η', I η' → Kc η') → g x η fun η1 => body { nx := Kc, rt := W.rt, bk := W.nx, ct := Kc } η1) →
    (∀ η', I η' → W.nx η') → forGo g body W xs η
  | [], η, hi, _, hend => hend η hi
  | x :: xs, η, hi, h, hend => h x List.mem_cons_self η hi _ fun η' hi' => for_each I xs η' hi' (fun y hy => h y (List.mem_cons_of_mem _ hy)) hend
theorem paired_mem {α β : Type} {R : α → β → Prop} : ∀ {xs : List α} {ys : List β}, Paired R xs ys → ∀ y ∈ ys, ∃ x ∈ xs, R x y
  | _, _, .nil, _, h => by cases h
  | _, _, .cons h t, y, hy => by
    rcases List.mem_cons.mp hy with e | e
    · subst e; exact ⟨_, List.mem_cons_self, h⟩
    · obtain ⟨x, hx, hr⟩ := paired_mem t y e
      exact ⟨x, List.mem_cons_of_mem _ hx, hr⟩
theorem paired_len {α β : Type} {R : α → β → Prop} : ∀ {xs : List α} {ys : List β}, Paired R xs ys → xs.length = ys.length
  | _, _, .nil => rfl
  | _, _, .cons _ t => congrArg (· + 1) (paired_len t)
/-- a comprehension that draws: each is some thing with P -/
theorem lc_draw {α : Type} (e : α → D) (P : D → Prop) {g : WG} {tt : WT} {we : WE} {η : En} {Q : D → Prop} (xs : List α)
    (h : ∀ x ∈ xs, ∀ R : Option D → Prop, (∀ y, P y → R (some y)) → g (e x) η fun η1 => tt η1 fun b => if b = true then we η1 fun y => R (some y) else R none)
    (hl : xs.length ≤ sizeLine) (q : ∀ ys : List D, ys.length = xs.length → (∀ y ∈ ys, P y) → Q (.list ys)) : lcGo g tt we η (xs.map e) [] Q := by
  refine lc_rel e (fun _ o => ∃ y, o = some y ∧ P y) xs [] (fun x hx R hR => h x hx R fun y hy => hR _ ⟨y, rfl, hy⟩) (by simpa using hl) fun os hos => ?_
  have key : ∀ {xs : List α} {os : List (Option D)}, Paired (fun _ o => ∃ y, o = some y ∧ P y) xs os → (os.filterMap id).length = xs.length ∧ ∀ y ∈ os.filterMap id, P y := by
    intro xs os h
    induction h with
    | nil => exact ⟨rfl, fun _ h => nomatch h⟩
    | cons h t ih =>
      obtain ⟨y, rfl, hy⟩ := h
      refine ⟨by rw [List.filterMap_cons]; exact congrArg (· + 1) ih.1, fun z hz => ?_⟩
      rw [List.filterMap_cons] at hz
      rcases List.mem_cons.mp hz with e | e
      · subst e; exact hy
      · exact ih.2 z e
  rw [List.nil_append]
  exact q _ (key hos).1 (key hos).2
end W2

set_option Elab.async false
set_option linter.all false
set_option maxRecDepth 100000
set_option autoImplicit false
/-! W2AO: values bent: rows of rows of ints, something in them otherwise. -/
namespace W2
open PySem PySem.Spec PyProof.Rows L2 PySem.W

/-- made of ints, n rows deep at most -/
def Pl : Nat → D → Prop
  | 0, d => ∃ i : Int, d = .int i ∧ i.natAbs < 10 ^ 30
  | n + 1, d => (∃ i : Int, d = .int i ∧ i.natAbs < 10 ^ 30) ∨ ∃ xs, d = .tuple xs ∧ xs.length ≤ 30 ∧ ∀ x ∈ xs, Pl n x
def bB : Nat → Nat
  | 0 => 40
  | n + 1 => 70 * (bB n + 2) + 3
theorem bB_ge : ∀ n, 40 ≤ bB n
  | 0 => Nat.le_refl _
  | n + 1 => by have := bB_ge n; unfold bB; omega
theorem int_fn {n : Nat} {i : Int} (h : i.natAbs < 10 ^ 30) : Fn n 40 (.int i) := (Fn.int (k := 30) (by decide) (by decide) h).mono (Nat.zero_le _) (by decide)
theorem pl_fn : ∀ {n : Nat} {d : D}, Pl n d → Fn n (bB n) d
  | 0, d, ⟨i, e, h⟩ => by subst e; exact int_fn h
  | n + 1, d, .inl ⟨i, e, h⟩ => by subst e; exact (int_fn h).mono (Nat.le_refl _) (bB_ge _)
  | n + 1, d, .inr ⟨xs, e, hl, h⟩ => by
    subst e
    exact (Fn.tup (w := 70) (by omega) fun x hx => pl_fn (h x hx)).mono (Nat.le_refl _) (Nat.le_of_eq rfl)
theorem lay_all {ds : List D} : PyData.canLayAll0 ds = true ↔ ∀ d ∈ ds, d.canLay0 = true := by
  induction ds with
  | nil => exact ⟨fun _ _ h => (nomatch h), fun _ => rfl⟩
  | cons x r ih =>
    have e : PyData.canLayAll0 (x :: r) = (x.canLay0 && PyData.canLayAll0 r) := rfl
    rw [e, Bool.and_eq_true, ih]
    simp
theorem pl_lay : ∀ {n : Nat} {d : D}, Pl n d → d.canLay0 = true
  | 0, d, ⟨i, e, h⟩ => by subst e; rfl
  | n + 1, d, .inl ⟨i, e, h⟩ => by subst e; rfl
  | n + 1, d, .inr ⟨xs, e, hl, h⟩ => by
    subst e
    exact lay_all.mpr fun x hx => pl_lay (h x hx)
theorem pl_shaped {n : Nat} {d : D} (h : Pl n d) (hn : n ≤ 64) : SeqAt.shaped d = true := shaped_of (pl_lay h) (Nat.le_trans (pl_fn h).dep hn)
theorem pl_mono : ∀ {n : Nat} {d : D}, Pl n d → Pl (n + 1) d
  | 0, d, h => .inl h
  | n + 1, d, .inl h => .inl h
  | n + 1, d, .inr ⟨xs, e, hl, h⟩ => .inr ⟨xs, e, hl, fun x hx => pl_mono (h x hx)⟩
structure OddOk (odd : List D) : Prop where
  ne : odd ≠ []
  few : odd.length ≤ 1000
  fn : ∀ o ∈ odd, Fn 3 40 o
def wfB (n : Nat) : WF := fun ds Q => ∃ (d : D) (odd : List D), ds = [d, .list odd] ∧ Pl n d ∧ OddOk odd ∧ ∀ r, Fn (n + 3) (bB n) r → Q r
theorem pl_tup {n : Nat} {xs : List D} (h : Pl n (.tuple xs)) : ∃ m, n = m + 1 ∧ xs.length ≤ 30 ∧ ∀ x ∈ xs, Pl m x := by
  cases n with
  | zero => obtain ⟨i, e, _⟩ := h; cases e
  | succ m =>
    rcases h with ⟨i, e, _⟩ | ⟨ys, e, hl, h⟩
    · cases e
    · cases e; exact ⟨m, rfl, hl, h⟩
/-- a new row of parts of a row and few new things -/
theorem fn_row {m k : Nat} {xs ys : List D} (hx : ∀ x ∈ xs, Pl m x) (hl : ys.length ≤ 70) (h : ∀ y ∈ ys, y ∈ xs ∨ Fn (m + 3) (bB m) y) : Fn (m + 1 + 3) (bB (m + 1)) (.tuple ys) :=
  (Fn.tup (k := m + 3) (w := 70) hl fun y hy => by
    rcases h y hy with e | e
    · exact (pl_fn (hx y e)).mono (by omega) (Nat.le_refl _)
    · exact e).mono (by omega) (Nat.le_refl _)
theorem fn_rowL {m k : Nat} {xs ys : List D} (hx : ∀ x ∈ xs, Pl m x) (hl : ys.length ≤ 70) (h : ∀ y ∈ ys, y ∈ xs ∨ Fn (m + 3) (bB m) y) : Fn (m + 1 + 3) (bB (m + 1)) (.list ys) :=
  (Fn.lst (k := m + 3) (w := 70) hl fun y hy => by
    rcases h y hy with e | e
    · exact (pl_fn (hx y e)).mono (by omega) (Nat.le_refl _)
    · exact e).mono (by omega) (Nat.le_refl _)
theorem at_len {ds : List D} {j : Int} (h0 : 0 ≤ j) (h1 : j < ds.length) : ∃ d ∈ ds, L2.atI ds j = some d := by
  have hi : j.toNat < ds.length := by omega
  refine ⟨ds[j.toNat], List.getElem_mem _, ?_⟩
  unfold L2.atI ixN
  rw [if_pos h0, if_pos (by omega)]
  show ds[j.toNat]? = _
  rw [List.getElem?_eq_getElem hi]
end W2

set_option Elab.async false
set_option linter.all false
set_option maxRecDepth 100000
/-! W2AP: max, min of a tuple of ints, or of a list. -/
namespace W2
open PySem PySem.Spec PyProof.Rows L2
section
variable {prog : Program} {w : World} {A : Around} {E : Value → Shared → Prop} {s : Shared} {l : Addr} {its : List Value} {ns : List Int} {Q : Value → Shared → Prop}
theorem max_rawT (hh : A.handled = none) (hl : s.heap.IsTuple l its.toArray) (hi : IntsAre its ns) (hne : 0 < ns.length)
    (h : ∀ g tk M t, (∀ b o, s.heap.get? b = some o → g.get? b = some o) → M ∈ ns → (∀ a, a ∈ ns → a ≤ M) → Q (.int M t) { s with heap := g, toks := tk }) : wpAny (model prog w) A (call (.builtin "max") [.ref l]) Q E s := by
  obtain ⟨xs, e⟩ := hi.allInts.items
  have hn : numsOf (intItems xs).toList = ns := by rw [← e]; exact hi.numsOf
  rw [nums_intItems] at hn
  subst hn
  rw [e] at hl
  have hsz : 0 < xs.size := by simpa using hne
  have lt : l < s.heap.objs.size := by obtain ⟨_, z, _⟩ := hl; exact Heap.lt_size z
  have up : ∀ b o, s.heap.get? b = some o → (s.heap.push { cls := .type "tuple_iterator", data := .fields #[.ref l, .int 0 0] }).get? b = some o := fun b o z => Heap.get?_push_of_some _ z
  refine call_max_walk (wpAny_pyIter_tuple hl ⟨_, _, _, _, _, _, _, rfl, Walks.tuple (A := A.in1) hh _ l (Nat.ne_of_lt lt) (intItems xs), ⟨⟨_, Heap.get?_push_size _ rfl, rfl, rfl⟩, hl.at fun o z => up _ _ z⟩, fun b hb => ?_, by simpa [intItems] using hsz, CmpOf.ints_gt (numAt xs) (fun _ _ => intItems_at), fun v g tk hP hk => ?_⟩)
  · show b < (s.heap.push _).objs.size
    rw [Heap.size_push]
    simp only [List.mem_cons, List.not_mem_nil, or_false] at hb
    rcases hb with z | z
    · rw [z]; exact Nat.lt_succ_self _
    · rw [z]; exact Nat.lt_succ_of_lt lt
  · have hv : (intItems xs)[argBest (fun i j => decide (numAt xs i > numAt xs j)) (xs.size - 1)]? = some v := by simpa [intItems] using hP
    obtain ⟨t, rfl⟩ := intItems_at hv
    obtain ⟨h1, h2⟩ := argBest_gt (numAt xs) (xs.size - 1)
    refine h g tk _ t (fun b o z => hk b o (fun m => by rw [List.mem_singleton] at m; exact absurd (Heap.lt_size z) (by rw [m]; exact Nat.lt_irrefl _)) (up b o z)) ?_ fun a ha => ?_
    · rw [numAt_eq]; exact PySem.getD_mem (by rw [List.length_map, Array.length_toList]; omega)
    · obtain ⟨j, hj, rfl⟩ := mem_getD ha
      rw [List.length_map, Array.length_toList] at hj
      rw [← numAt_eq]; exact h2 j (by omega)
theorem min_rawT (hh : A.handled = none) (hl : s.heap.IsTuple l its.toArray) (hi : IntsAre its ns) (hne : 0 < ns.length)
    (h : ∀ g tk M t, (∀ b o, s.heap.get? b = some o → g.get? b = some o) → M ∈ ns → (∀ a, a ∈ ns → M ≤ a) → Q (.int M t) { s with heap := g, toks := tk }) : wpAny (model prog w) A (call (.builtin "min") [.ref l]) Q E s := by
  obtain ⟨xs, e⟩ := hi.allInts.items
  have hn : numsOf (intItems xs).toList = ns := by rw [← e]; exact hi.numsOf
  rw [nums_intItems] at hn
  subst hn
  rw [e] at hl
  have hsz : 0 < xs.size := by simpa using hne
  have lt : l < s.heap.objs.size := by obtain ⟨_, z, _⟩ := hl; exact Heap.lt_size z
  have up : ∀ b o, s.heap.get? b = some o → (s.heap.push { cls := .type "tuple_iterator", data := .fields #[.ref l, .int 0 0] }).get? b = some o := fun b o z => Heap.get?_push_of_some _ z
  refine call_min_walk (wpAny_pyIter_tuple hl ⟨_, _, _, _, _, _, _, rfl, Walks.tuple (A := A.in1) hh _ l (Nat.ne_of_lt lt) (intItems xs), ⟨⟨_, Heap.get?_push_size _ rfl, rfl, rfl⟩, hl.at fun o z => up _ _ z⟩, fun b hb => ?_, by simpa [intItems] using hsz, CmpOf.ints_lt (numAt xs) (fun _ _ => intItems_at), fun v g tk hP hk => ?_⟩)
  · show b < (s.heap.push _).objs.size
    rw [Heap.size_push]
    simp only [List.mem_cons, List.not_mem_nil, or_false] at hb
    rcases hb with z | z
    · rw [z]; exact Nat.lt_succ_self _
    · rw [z]; exact Nat.lt_succ_of_lt lt
  · have hv : (intItems xs)[argBest (fun i j => decide (numAt xs i < numAt xs j)) (xs.size - 1)]? = some v := by simpa [intItems] using hP
    obtain ⟨t, rfl⟩ := intItems_at hv
    obtain ⟨h1, h2⟩ := argBest_lt (numAt xs) (xs.size - 1)
    refine h g tk _ t (fun b o z => hk b o (fun m => by rw [List.mem_singleton] at m; exact absurd (Heap.lt_size z) (by rw [m]; exact Nat.lt_irrefl _)) (up b o z)) ?_ fun a ha => ?_
    · rw [numAt_eq]; exact PySem.getD_mem (by rw [List.length_map, Array.length_toList]; omega)
    · obtain ⟨j, hj, rfl⟩ := mem_getD ha
      rw [List.length_map, Array.length_toList] at hj
      rw [← numAt_eq]; exact h2 j (by omega)
end
def rMaxT (K : PySem.W.Frag) : List V → Hp → VK → Prop := fun vs H Q => ∃ (a : Addr) (ns : List Int), vs = [V.ref a] ∧ SqT K H a (ns.map V.int) ∧ 0 < ns.length ∧ ∀ m, m ∈ ns → (∀ y, y ∈ ns → y ≤ m) → Q (.int m) H
def rMinT (K : PySem.W.Frag) : List V → Hp → VK → Prop := fun vs H Q => ∃ (a : Addr) (ns : List Int), vs = [V.ref a] ∧ SqT K H a (ns.map V.int) ∧ 0 < ns.length ∧ ∀ m, m ∈ ns → (∀ y, y ∈ ns → m ≤ y) → Q (.int m) H
theorem cr_maxT {X : Cx} (hc : X.calm = true) : CallR X (.builtin "max") (rMaxT X.K) := by
  intro pins s σ H vs us Q I r h
  obtain ⟨a, ns, rfl, hs, hn, q⟩ := h
  obtain ⟨its, rv, hl, _⟩ := I.tuple hs
  rw [Vals.ref1 r]
  exact max_rawT (I.ok.hd hc) hl rv.ints hn fun g tk m t hk h1 h2 => ⟨.int _, H, I.kept hk, ⟨_, rfl⟩, q m h1 h2⟩
theorem cr_minT {X : Cx} (hc : X.calm = true) : CallR X (.builtin "min") (rMinT X.K) := by
  intro pins s σ H vs us Q I r h
  obtain ⟨a, ns, rfl, hs, hn, q⟩ := h
  obtain ⟨its, rv, hl, _⟩ := I.tuple hs
  rw [Vals.ref1 r]
  exact min_rawT (I.ok.hd hc) hl rv.ints hn fun g tk m t hk h1 h2 => ⟨.int _, H, I.kept hk, ⟨_, rfl⟩, q m h1 h2⟩
def rMaxX (K : PySem.W.Frag) : List V → Hp → VK → Prop := fun xs H Q => rMax K xs H Q ∨ rMaxT K xs H Q
def rMinX (K : PySem.W.Frag) : List V → Hp → VK → Prop := fun xs H Q => rMin K xs H Q ∨ rMinT K xs H Q
theorem cr_maxX {X : Cx} (K : PySem.W.Frag) (hK : X.K = K) (hc : X.calm = true) : CallR X (.builtin "max") (rMaxX K) := by
  subst hK
  exact CallR.or (cr_max hc) (cr_maxT hc)
theorem cr_minX {X : Cx} (K : PySem.W.Frag) (hK : X.K = K) (hc : X.calm = true) : CallR X (.builtin "min") (rMinX K) := by
  subst hK
  exact CallR.or (cr_min hc) (cr_minT hc)
def gMaxX : List D → (D → Prop) → Prop
  | [.list ds], Q => ∃ ns, intsOf ds = some ns ∧ 0 < ns.length ∧ ∀ m, m ∈ ns → (∀ y, y ∈ ns → y ≤ m) → Q (.int m)
  | [.tuple ds], Q => ∃ ns, intsOf ds = some ns ∧ 0 < ns.length ∧ ∀ m, m ∈ ns → (∀ y, y ∈ ns → y ≤ m) → Q (.int m)
  | _, _ => False
def gMinX : List D → (D → Prop) → Prop
  | [.list ds], Q => ∃ ns, intsOf ds = some ns ∧ 0 < ns.length ∧ ∀ m, m ∈ ns → (∀ y, y ∈ ns → m ≤ y) → Q (.int m)
  | [.tuple ds], Q => ∃ ns, intsOf ds = some ns ∧ 0 < ns.length ∧ ∀ m, m ∈ ns → (∀ y, y ∈ ns → m ≤ y) → Q (.int m)
  | _, _ => False
theorem cs_maxX {K : PySem.W.Frag} : CSem K (rMaxX K) gMaxX := fun {sx F H vs ds Q R} b h hg k => by
  unfold gMaxX at hg
  split at hg
  · obtain ⟨v, rfl, h1⟩ := Nws.one h
    obtain ⟨a, xs, rfl, h2, h3⟩ := h1.list b.le
    obtain ⟨ns, e, hn, q⟩ := hg
    rw [intsOf_some e] at h3
    rw [h3.intsV] at h2
    exact .inl ⟨a, ns, rfl, SqL.of h2, hn, fun m h1 h2 => k.now b (q m h1 h2) (.int _)⟩
  · obtain ⟨v, rfl, h1⟩ := Nws.one h
    obtain ⟨a, xs, rfl, h2, h3⟩ := h1.tupleH b.le
    obtain ⟨ns, e, hn, q⟩ := hg
    rw [intsOf_some e] at h3
    rw [h3.intsV] at h2
    exact .inr ⟨a, ns, rfl, h2, hn, fun m h1 h2 => k.now b (q m h1 h2) (.int _)⟩
  · exact hg.elim
theorem cs_minX {K : PySem.W.Frag} : CSem K (rMinX K) gMinX := fun {sx F H vs ds Q R} b h hg k => by
  unfold gMinX at hg
  split at hg
  · obtain ⟨v, rfl, h1⟩ := Nws.one h
    obtain ⟨a, xs, rfl, h2, h3⟩ := h1.list b.le
    obtain ⟨ns, e, hn, q⟩ := hg
    rw [intsOf_some e] at h3
    rw [h3.intsV] at h2
    exact .inl ⟨a, ns, rfl, SqL.of h2, hn, fun m h1 h2 => k.now b (q m h1 h2) (.int _)⟩
  · obtain ⟨v, rfl, h1⟩ := Nws.one h
    obtain ⟨a, xs, rfl, h2, h3⟩ := h1.tupleH b.le
    obtain ⟨ns, e, hn, q⟩ := hg
    rw [intsOf_some e] at h3
    rw [h3.intsV] at h2
    exact .inr ⟨a, ns, rfl, h2, hn, fun m h1 h2 => k.now b (q m h1 h2) (.int _)⟩
  · exact hg.elim
end W2

set_option Elab.async false
set_option linter.all false
set_option maxRecDepth 100000
/-! W2AQ: (a, b), c, .. = x, y, .. : the first value, a tuple, to names; the others, frozen or new, to names. -/
namespace W2
open PySem PySem.Spec PyProof.Rows L2

def wParN (js is : List Nat) (w : WM) : WS := fun D η => w η fun ss => match ss with
  | .fz (.tuple ds) :: ss' => ds.length = js.length ∧ ss'.length = is.length ∧ D.nx (setAllE η (js ++ is) (ds.map .fz ++ ss'))
  | _ => False
theorem setAll_app : ∀ (js is : List Nat) (us vs : List V) (σ : L2.St), us.length = js.length → setAll (setAll σ js us) is vs = setAll σ (js ++ is) (us ++ vs)
  | [], _, [], _, _, _ => rfl
  | j :: js, is, u :: us, vs, σ, h => setAll_app js is us vs (σ.set j (some u)) (by simpa using h)
  | [], _, _ :: _, _, _, h => by simp at h
  | _ :: _, _, [], _, _, h => by simp at h
theorem MRow.app {K : PySem.W.Frag} {Hb F H : Hp} {vs : List V} {ss : List Slot} (m : MRow K Hb F H vs ss) : ∀ {us : List V} {ds : List D}, DtL K F us ds → MRow K Hb F H (us ++ vs) (ds.map .fz ++ ss)
  | _, _, .nil => m
  | _, _, .cons h t => .cons h (fun _ z => nomatch z) (MRow.app m t)
section
variable {X : Cx} {ta : TA} {w : WM} {pos : Pos} {kt k2 k0 : Nat} {pt pt2 pt0 : Pos}
theorem sem_parN {K : PySem.W.Frag} {js is : List Nat} (hz : is.length ≤ 1000) (h : SemM K ta w) : SemS K (tAsg (tTup ta) (gTup K (is.length + 1) (gCons (gTup K js.length (tgNames js)) (tgNames is)))) (wParN js is w) := fun {sx H0 F0 F σ H η D R} r hw k => h r hw fun ss vs F1 H1 q e m => by
  match ss, vs, m, q with
  | .fz (.tuple ds) :: ss', v1 :: vr, .cons h1 hd t, q =>
    obtain ⟨q1, q2, q3⟩ := q
    have hv : Dt K F1 v1 (.tuple ds) := h1
    cases hv with
    | tup ht hs =>
      rename_i a us
      have lu : us.length = js.length := hs.length.trans q1
      have lr : vr.length = is.length := t.length.trans q2
      refine ⟨by show (_ :: vr).length ≤ _; rw [List.length_cons, lr, sizeLine_eq]; omega, fun p hp => ⟨p, _, rfl, .inl (.inl upd_same), by show (_ :: vr).length = _; rw [List.length_cons, lr], _, _, rfl, ?_⟩⟩
      have r1 := r.setMs e (t.app hs) (js ++ is)
      have le := (r.ext e).base.le
      have nx : ∀ o, H1 a = some o → upd H1 p (.tup (V.ref a :: vr)) a = some o := fun o z => by rw [upd_ne (ne_of_none z hp)]; exact z
      have hq : SqT K (upd H1 p (.tup (V.ref a :: vr))) a us := by
        obtain ⟨o, _, z⟩ := ht
        exact .inl (.inr ⟨o, nx _ (le _ _ z)⟩)
      refine ⟨a, us, rfl, hq, lu, tg_names js lu (tg_names is lr ?_)⟩
      rw [setAll_app js is us vr σ lu]
      exact k.nx _ _ _ _ q3 e.sF (r1.ext (.newF r1.base hp))
theorem ds_parN {es : List Expr} {tgs0 tgs : List Expr} {js is : List Nat} (K : PySem.W.Frag) (hK : X.K = K) (hc : X.calm = true) (h : DM X es ta w) (hg0 : PGs X tgs0 (tgNames js)) (hg : PGs X tgs (tgNames is)) (hz : is.length ≤ 1000 := by decide)
    (hn0 : (assignEach tgs0 X.env).length = js.length := by rfl) (hst0 : (assignEach tgs0 X.env).findIdx? (·.1) = none := by rfl)
    (hc2 : (assignEach (.Tuple tgs0 k0 pt0 :: tgs) X.env).map (·.2) = assign (.Tuple tgs0 k0 pt0) X.env :: (assignEach tgs X.env).map (·.2) := by rfl)
    (hn : (assignEach (.Tuple tgs0 k0 pt0 :: tgs) X.env).length = is.length + 1 := by rfl) (hst : (assignEach (.Tuple tgs0 k0 pt0 :: tgs) X.env).findIdx? (·.1) = none := by rfl)
    (hs : swapsWithSole [.Tuple (.Tuple tgs0 k0 pt0 :: tgs) kt pt] (.Tuple es k2 pt2) pos.line X.env = pure false := by rfl) (hw : swappedStores [.Tuple (.Tuple tgs0 k0 pt0 :: tgs) kt pt] (.Tuple es k2 pt2) X.env = pure none := by rfl)
    (h1 : (assignEach [.Tuple (.Tuple tgs0 k0 pt0 :: tgs) kt pt] X.env).map (·.2) = [assign (.Tuple (.Tuple tgs0 k0 pt0 :: tgs) kt pt) X.env] := by rfl) :
    DS X (.Assign [.Tuple (.Tuple tgs0 k0 pt0 :: tgs) kt pt] (.Tuple es k2 pt2) pos) (tAsg (tTup ta) (gTup K (is.length + 1) (gCons (gTup K js.length (tgNames js)) (tgNames is)))) (wParN js is w) := by
  subst hK
  exact ⟨ps_asg (pe_tup h.pa) (pg_tup hc (pgs_cons (pg_tup hc hg0 hn0 hst0) hg hc2) hn hst) hs hw h1, sem_parN hz h.sem⟩
end
end W2

set_option Elab.async false
set_option linter.all false
set_option maxRecDepth 100000
/-! W3A: the program's polynomials, for every law: sums, products, degrees, parts, worths. The readings wb_.. are as gen.py prints them. -/
namespace Po
open PySem PySem.Spec PyProof.Rows L2 W2 PySem.W Sm

def wb_told_polynomial : WS :=
  wRet (wCall gTuple (wCons (wCall gSorted (wCons (wLc (wItm (wN 0)) (wGt 2 (wGcons (wGn 1) (wGcons (wGn 2) (wGnil)))) (wTrB (w2 gNe (wB 2) (wC (.int 0)))) (wTup (wCons (wN 1) (wCons (wN 2) (wNil)))) [1, 2]) (wNil))) (wNil)))
def wb_polynomial_sum (wf_told_polynomial : WF) : WS :=
  wSeq (wAsgL (wCall gDictX (wCons (wB 0) (wNil))) 3) (wSeq (wFor (wItems (wN 1)) (wGt 2 (wGcons (wGn 4) (wGcons (wGn 5) (wGnil)))) (wStore 3 (wN 4) (w2 gAdd (wGet2 (wB 3) (wN 4) (wC (.int 0))) (w2 gMulI (wB 2) (wB 5))))) (wFrz 3 (wRet (wFn 1 wf_told_polynomial (wCons (wN 3) (wNil))))))
def wb_added_powers : WS :=
  wRet (wCall gTuple (wCons (wLc (wZip true (wCons (wN 0) (wCons (wN 1) (wNil)))) (wGt 2 (wGcons (wGn 2) (wGcons (wGn 3) (wGnil)))) (wYes) (w2 gAdd (wB 2) (wB 3)) [2, 3]) (wNil)))
def wb_polynomial_product (wf_added_powers wf_told_polynomial : WF) : WS :=
  wSeq (wAsgL (wDNew) 2) (wSeq (wFor (wItems (wN 0)) (wGt 2 (wGcons (wGn 3) (wGcons (wGn 4) (wGnil)))) (wFor (wItems (wN 1)) (wGt 2 (wGcons (wGn 5) (wGcons (wGn 6) (wGnil)))) (wSeq (wAsg (wFn 2 wf_added_powers (wCons (wN 3) (wCons (wN 5) (wNil)))) (wGn 7)) (wStore 2 (wN 7) (w2 gAdd (wGet2 (wB 2) (wN 7) (wC (.int 0))) (w2 gMulI (wB 4) (wB 6))))))) (wFrz 2 (wRet (wFn 1 wf_told_polynomial (wCons (wN 2) (wNil))))))
def wb_degree_of : WS :=
  wRet (wCall gMaxX (wCons (w2 gCat (wLst (wCons (w1 gNeg (wC (.int 1))) (wNil))) (wLc (wItems (wN 0)) (wGt 2 (wGcons (wGn 1) (wGcons (wGn 2) (wGnil)))) (wYes) (wCall gSum (wCons (wB 1) (wNil))) [1, 2])) (wNil)))
def wb_part_of_degree : WS :=
  wRet (wCall gTuple (wCons (wLc (wItems (wN 0)) (wGn 2) (wTrB (w2 gEq (wCall gSum (wCons (w2 gIxA (wB 2) (wC (.int 0))) (wNil))) (wB 1))) (wN 2) [2]) (wNil)))
def wb_highest_part (wf_part_of_degree wf_degree_of : WF) : WS :=
  wRet (wFn 2 wf_part_of_degree (wCons (wN 0) (wCons (wFn 1 wf_degree_of (wCons (wN 0) (wNil))) (wNil))))
def wb_number_at : WS :=
  wRet (wGet2 (wCall gDictX (wCons (wB 0) (wNil))) (wN 1) (wC (.int 0)))
def wb_worth_of : WS :=
  wSeq (wPar [2, 3] (wMFz (wC (.int 0)) (wMFz (wLc (wItems (wSl (wB 1) (wPart (wC (.int 1))) (wNoPart))) (wGn 9) (wYes) (w2 gSubI (wB 9) (w2 gIxA (wB 1) (wC (.int 0)))) [9]) (wMNil)))) (wSeq (wFor (wItems (wN 0)) (wGt 2 (wGcons (wGn 4) (wGcons (wGn 5) (wGnil)))) (wSeq (wFor (wZip true (wCons (wN 3) (wCons (wN 4) (wNil)))) (wGt 2 (wGcons (wGn 6) (wGcons (wGn 7) (wGnil)))) (wFor (wRng1 (wB 7)) (wGn 8) (wAsg (w2 gMulI (wB 5) (wB 6)) (wGn 5)))) (wAug 2 (wB 5) gAddI))) (wRet (wN 2)))
/-! numbers not too great for a product -/
def small (x : Int) : Prop := x.natAbs.log2 < 100000
theorem small_pow {x : Int} {k : Nat} (h : x.natAbs < 2 ^ k) (hk : k ≤ 100000) : small x := by
  unfold small
  by_cases c : x.natAbs = 0
  · rw [c]; decide
  · exact Nat.lt_of_lt_of_le ((Nat.log2_lt c).mpr h) hk
theorem small_of {x : Int} {B : Nat} (h : x.natAbs ≤ B) (hB : B < 2 ^ 250) : small x := small_pow (k := 250) (Nat.lt_of_le_of_lt h hB) (by decide)
theorem small_mul {x y : Int} (h1 : small x) (h2 : small y) : x.natAbs.log2 + y.natAbs.log2 < 1000000 := by unfold small at h1 h2; omega

/-! ### told -/
def wf_told : WF := fun ds Q => ∃ m, ds = [mpD m] ∧ m.length ≤ 1000000 ∧ Q (rsD (W2.told m))
theorem hw_told (ds : List W2.D) (Q : W2.D → Prop) (_ : ds.length = 1) (h : wf_told ds Q) : wb_told_polynomial { nx := fun _ => Q .none, rt := Q } (startE ["numbers", "powers", "number"] (ds.map .fz)) := by
  obtain ⟨m, rfl, hl, q⟩ := h
  show lcGo _ _ _ _ ((m.map mpE).map W2.pairD) [] _
  rw [List.map_map]
  show lcGo _ _ _ _ (m.map W2.prD) [] _
  refine lc_fm W2.prD (fun p => if decide (p.2 ≠ 0) = true then some (W2.prD p) else none) m (fun p hp R hR => ?_) (le_line hl) ?_
  · refine ⟨rfl, rfl, ?_⟩
    show (if (!(p.2 == 0)) = true then _ else R none)
    by_cases c : p.2 = 0
    · rw [if_neg (by simp [c])]
      rw [if_neg (by simp [c])] at hR
      exact hR
    · rw [if_pos (by simp [c])]
      rw [if_pos (by simp [c])] at hR
      exact ⟨(show 2 ≤ sizeLine by decide), hR⟩
  · rw [filterMap_some]
    refine ⟨layAll_map lay_pr _, sortOk_pr _, ?_⟩
    show Q (.tuple (sortD _))
    rw [sortD_pr]
    exact q
/-- what a told dict wants of the teller -/
def Teller (wt : WF) : Prop := ∀ m (P : W2.D → Prop), Keys m → m.length ≤ 1000000 → P (rsD (W2.told m)) → wt [mpD m] P
theorem teller : Teller wf_told := fun m P _ hl hp => ⟨m, rfl, hl, hp⟩
/-! ### added -/
def psum (s t : List LI) (c : Int) : List LI := W2.told (t.foldl (addIn c) s)
theorem psum_nf {s t : List LI} {c : Int} (hs : Keys s) : Nf (psum s t c) := nf_told (keys_fold addIn_keys t s hs)
theorem psum_ev {s t : List LI} {c : Int} (hs : Keys s) (f : List Int → Int) : ev f (psum s t c) = ev f s + c * ev f t := by
  unfold psum
  rw [ev_told, ev_addOut f c t s hs]
theorem psum_nrm {s t : List LI} {c : Int} (hs : Keys s) : nrm (psum s t c) ≤ nrm s + c.natAbs * nrm t := by
  have h1 := nrm_told (t.foldl (addIn c) s)
  have h2 := nrm_addOut c t s hs
  unfold psum
  omega
theorem psum_mem {P : List Int → Prop} {s t : List LI} {c : Int} (hs : ∀ p ∈ s, P p.1) (ht : ∀ p ∈ t, P p.1) : ∀ p ∈ psum s t c, P p.1 := by
  intro p hp
  refine keys_of (P := P) s (fun m y hy hm => ?_) hs p (mem_told.mp hp).1
  intro z hz
  rcases put_mem hz with e' | e'
  · rw [e']; exact ht y hy
  · exact hm z e'
def wf_psum : WF := fun ds Q => ∃ (s t : List LI) (c : Int), ds = [rsD s, rsD t, .int c] ∧ Keys s ∧ s.length + t.length ≤ 100000 ∧ small c ∧ (∀ q ∈ t, small q.2) ∧ Q (rsD (psum s t c))
theorem psum_body {wt : WF} (hT : Teller wt) (ds : List W2.D) (Q : W2.D → Prop) (h : wf_psum ds Q) : wb_polynomial_sum wt { nx := fun _ => Q .none, rt := Q } (startE ["one", "other", "times", "found", "powers", "number"] (ds.map .fz)) := by
  obtain ⟨s, t, c, rfl, hk, hl, hc, ht, q⟩ := h
  refine dict_rs hk ?_
  show forGo _ _ _ (t.map W2.prD) _
  refine for_foldW W2.prD (fun m η => Keys m ∧ ∃ a b, η = [.fz (rsD s), .fz (rsD t), .fz (.int c), .ow (mpD m), a, b]) (addIn c) List.length (fun _ => 1) (addIn_len c) (B := 100000) t s _ ⟨hk, .un, .un, rfl⟩ (by rw [sum_one]; exact hl) (fun r hr m η hI hB Kc hK => ?_) fun η' hI => ?_
  · obtain ⟨km, a, b, rfl⟩ := hI
    refine ⟨rfl, ?_⟩
    refine ⟨keyOk_lot r.1, kindOk_mp m r.1, ?_⟩
    rw [dGet_val]
    refine ⟨small_mul hc (ht r hr), ?_⟩
    refine ⟨keyOk_lot r.1, kindOk_mp m r.1, ?_, ?_⟩
    · rw [List.length_map]
      exact Nat.lt_of_lt_of_le (show m.length < 100001 by omega) (by rw [sizeLine_eq]; decide)
    · rw [dPut_mp]
      exact hK _ ⟨addIn_keys m r km, _, _, rfl⟩
  · obtain ⟨km, a, b, rfl⟩ := hI
    refine ⟨rfl, hT _ _ km ?_ q⟩
    have key : ∀ (l : List LI) (m : List LI), (l.foldl (addIn c) m).length ≤ m.length + l.length := by
      intro l
      induction l with
      | nil => intro m; exact Nat.le_refl _
      | cons x r ih =>
        intro m
        have h1 := ih (addIn c m x)
        have h2 := addIn_len c m x
        rw [List.foldl_cons, List.length_cons]
        omega
    have := key t s
    omega
theorem hw_psum (ds : List W2.D) (Q : W2.D → Prop) (_ : ds.length = 3) (h : wf_psum ds Q) : wb_polynomial_sum wf_told { nx := fun _ => Q .none, rt := Q } (startE ["one", "other", "times", "found", "powers", "number"] (ds.map .fz)) := psum_body teller ds Q h
/-! ### multiplied -/
def padd (a b : List Int) : List Int := List.zipWith (· + ·) a b
def pop : Op := fun a b => some (padd a b)
theorem zip_rd : ∀ (a b : List Int), (zipD (a.map PyData.int) (b.map PyData.int)).map PyData.tuple = (List.zip a b).map rdD
  | [], _ => rfl
  | _ :: _, [] => rfl
  | x :: a, y :: b => by
    have ih := zip_rd a b
    unfold zipD at ih ⊢
    rw [List.map_cons, List.map_cons, List.zipWith_cons_cons, List.map_cons, ih]
    rfl
theorem padd_zip : ∀ (a b : List Int), (List.zip a b).map (fun p => PyData.int (p.1 + p.2)) = (padd a b).map PyData.int
  | [], _ => rfl
  | _ :: _, [] => rfl
  | x :: a, y :: b => by
    have ih := padd_zip a b
    unfold padd at ih ⊢
    rw [List.zip_cons_cons, List.map_cons, ih]
    rfl
theorem padd_len {a b : List Int} (h : a.length = b.length) : (padd a b).length = a.length := by unfold padd; rw [List.length_zipWith, h, Nat.min_self]
theorem padd_comm (a b : List Int) : padd a b = padd b a := by unfold padd; rw [List.zipWith_comm]; congr 1; funext x y; exact Int.add_comm _ _
theorem padd_assoc : ∀ (a b c : List Int), padd (padd a b) c = padd a (padd b c)
  | [], _, _ => rfl
  | _ :: _, [], _ => rfl
  | _ :: _, _ :: _, [] => rfl
  | x :: a, y :: b, z :: c => by
    have ih := padd_assoc a b c
    unfold padd at ih ⊢
    rw [List.zipWith_cons_cons, List.zipWith_cons_cons, List.zipWith_cons_cons, List.zipWith_cons_cons, ih, Int.add_assoc]
theorem fm_map {α : Type} (f : α → W2.D) (xs : List α) : xs.filterMap (fun x => some (f x)) = xs.map f := congrFun List.filterMap_eq_map _
def wf_addp : WF := fun ds Q => ∃ a b : List Int, ds = [lotD a, lotD b] ∧ a.length = b.length ∧ a.length ≤ 100000 ∧ Q (lotD (padd a b))
/-- the comprehension over the zip of two powers -/
theorem zip_go {a b : List Int} {G : WG} {W : WE} {η : En} {Q : W2.D → Prop} (hl : a.length ≤ 100000) (step : ∀ (p : Int × Int) (R : W2.D → Prop), R (.int (p.1 + p.2)) → G (rdD p) η fun η1 => W η1 R) (q : Q (.list ((padd a b).map .int))) :
    lcGo G wYes W η ((zipD (a.map PyData.int) (b.map PyData.int)).map PyData.tuple) [] Q := by
  rw [zip_rd]
  refine lc_fm rdD (fun p => some (.int (p.1 + p.2))) (List.zip a b) (fun p hp R hR => step p _ hR) (le_line (by rw [List.length_zip]; omega)) ?_
  rw [fm_map, padd_zip]
  exact q
theorem hw_addp (ds : List W2.D) (Q : W2.D → Prop) (_ : ds.length = 2) (h : wf_addp ds Q) : wb_added_powers { nx := fun _ => Q .none, rt := Q } (startE ["one", "other", "a", "b"] (ds.map .fz)) := by
  obtain ⟨a, b, rfl, he, hl, q⟩ := h
  refine ⟨fun _ => by rw [List.length_map, List.length_map, he], ?_⟩
  exact zip_go hl (fun p R hR => ⟨rfl, hR⟩) q
def wbMul (C : WE) (wt : WF) : WS :=
  wSeq (wAsgL (wDNew) 2) (wSeq (wFor (wItems (wN 0)) (wGt 2 (wGcons (wGn 3) (wGcons (wGn 4) (wGnil)))) (wFor (wItems (wN 1)) (wGt 2 (wGcons (wGn 5) (wGcons (wGn 6) (wGnil)))) (wSeq (wAsg C (wGn 7)) (wStore 2 (wN 7) (w2 gAdd (wGet2 (wB 2) (wN 7) (wC (.int 0))) (w2 gMulI (wB 4) (wB 6))))))) (wFrz 2 (wRet (wFn 1 wt (wCons (wN 2) (wNil))))))
def PadOk (C : WE) (tl : List Slot) : Prop := ∀ (s t m : W2.D) (a b : List Int) (u v : Int) (e : Slot) (P : W2.D → Prop), a.length = b.length → a.length ≤ 100000 →
  P (lotD (padd a b)) → C (.fz s :: .fz t :: .ow m :: .fz (lotD a) :: .fz (.int u) :: .fz (lotD b) :: .fz (.int v) :: e :: tl) P
def MulOk (s t : List LI) : Prop := s.length * t.length ≤ 100000 ∧ (∀ p ∈ s, small p.2 ∧ p.1.length ≤ 100000) ∧ (∀ p ∈ t, small p.2) ∧ ∀ p ∈ s, ∀ q ∈ t, p.1.length = q.1.length
def pmul (s t : List LI) : List LI := mulS pop s t
def wf_mul : WF := fun ds Q => ∃ s t : List LI, ds = [rsD s, rsD t] ∧ MulOk s t ∧ Q (rsD (pmul s t))
theorem mul_body {C : WE} {tl : List Slot} (hC : PadOk C tl) {wt : WF} (hT : Teller wt) (s t : List LI) (Q : W2.D → Prop) (h : MulOk s t) (q : Q (rsD (pmul s t))) :
    wbMul C wt { nx := fun _ => Q .none, rt := Q } (.fz (rsD s) :: .fz (rsD t) :: .un :: .un :: .un :: .un :: .un :: .un :: tl) := by
  obtain ⟨hl, hs, ht, hst⟩ := h
  show forGo _ _ _ (s.map W2.prD) _
  refine for_foldW W2.prD (fun m η => Keys m ∧ ∃ a b c d e, η = .fz (rsD s) :: .fz (rsD t) :: .ow (mpD m) :: a :: b :: c :: d :: e :: tl) (mulOut pop t) List.length (fun _ => t.length) (mulOut_len t) (B := 100000) s [] _ ⟨keys_nil, .un, .un, .un, .un, .un, rfl⟩ (by rw [sum_const]; simpa using hl) (fun p hp m η hI hB Kc hK => ?_) fun η' hI => ?_
  · obtain ⟨km, a, b, c, d, e, rfl⟩ := hI
    refine ⟨rfl, ?_⟩
    show forGo _ _ _ (t.map W2.prD) _
    refine for_foldW W2.prD (fun m η => Keys m ∧ ∃ c d e, η = .fz (rsD s) :: .fz (rsD t) :: .ow (mpD m) :: .fz (lotD p.1) :: .fz (.int p.2) :: c :: d :: e :: tl) (mulIn pop p) List.length (fun _ => 1) (mulIn_len p) (B := 100000) t m _ ⟨km, c, d, e, rfl⟩ (by rw [sum_one]; exact hB) (fun r hr m η hI hB Kc hK => ?_) fun η' hI => ?_
    · obtain ⟨km, c, d, e, rfl⟩ := hI
      refine ⟨rfl, ?_⟩
      refine hC _ _ _ _ _ _ _ _ _ (hst p hp r hr) (hs p hp).2 ?_
      have em : mulIn pop p m r = put m (padd p.1 r.1) (val m (padd p.1 r.1) + p.2 * r.2) := mulIn_some rfl
      refine ⟨keyOk_lot _, kindOk_mp m _, ?_⟩
      rw [dGet_val]
      refine ⟨small_mul (hs p hp).1 (ht r hr), ?_⟩
      refine ⟨keyOk_lot _, kindOk_mp m _, ?_, ?_⟩
      · rw [List.length_map]
        exact Nat.lt_of_lt_of_le (show m.length < 100001 by omega) (by rw [sizeLine_eq]; decide)
      · rw [dPut_mp]
        exact hK _ (by rw [em]; exact ⟨put_keys km, _, _, _, rfl⟩)
    · obtain ⟨km, c, d, e, rfl⟩ := hI
      exact hK _ ⟨km, _, _, _, _, _, rfl⟩
  · obtain ⟨km, a, b, c, d, e, rfl⟩ := hI
    refine ⟨rfl, hT _ _ km ?_ q⟩
    have key := fold_len (mulOut_len (op := pop) t) s []
    rw [List.length_nil] at key
    omega
theorem hw_mul (ds : List W2.D) (Q : W2.D → Prop) (_ : ds.length = 2) (h : wf_mul ds Q) : wb_polynomial_product wf_addp wf_told { nx := fun _ => Q .none, rt := Q } (startE ["one", "other", "found", "powers", "number", "late", "times", "both"] (ds.map .fz)) := by
  obtain ⟨s, t, rfl, hm, q⟩ := h
  exact mul_body (C := wFn 2 wf_addp (wCons (wN 3) (wCons (wN 5) (wNil)))) (tl := []) (fun s t m a b u v e P h1 h2 h3 => ⟨rfl, a, b, rfl, h1, h2, h3⟩) teller s t Q hm q
/-! ### degrees, parts -/
def degS (s : List LI) : Int := (s.map fun p => p.1.sum).foldl max (-1)
theorem max_fold : ∀ (l : List Int) (a m : Int), m ∈ a :: l → (∀ y ∈ a :: l, y ≤ m) → m = l.foldl max a
  | [], a, m, h, _ => by simpa using h
  | x :: l, a, m, h, hu => by
    rw [List.foldl_cons]
    refine max_fold l (max a x) m ?_ fun y hy => ?_
    · rcases List.mem_cons.mp h with e | e
      · subst e
        have := hu x (by simp)
        rw [show max m x = m by omega]; exact List.mem_cons_self
      · rcases List.mem_cons.mp e with e | e
        · subst e
          have := hu a (by simp)
          rw [show max a m = m by omega]; exact List.mem_cons_self
        · exact List.mem_cons_of_mem _ e
    · rcases List.mem_cons.mp hy with e | e
      · subst e
        have h1 := hu a (by simp)
        have h2 := hu x (by simp)
        omega
      · exact hu y (List.mem_cons_of_mem _ (List.mem_cons_of_mem _ e))
theorem maxX_go {l : List Int} {a : Int} {Q : W2.D → Prop} (q : Q (.int (l.foldl max a))) : gMaxX [.list ((a :: l).map PyData.int)] Q :=
  ⟨a :: l, intsOf_map _, Nat.succ_pos _, fun m h1 h2 => by rw [max_fold l a m h1 h2]; exact q⟩
def wf_deg : WF := fun ds Q => ∃ s : List LI, ds = [rsD s] ∧ s.length ≤ 100000 ∧ Q (.int (degS s))
theorem deg_go {s : List LI} {G : WG} {W : WE} {η : En} {Q : W2.D → Prop} (hl : s.length ≤ 100000) (step : ∀ (p : LI) (R : W2.D → Prop), R (.int p.1.sum) → G (W2.prD p) η fun η1 => W η1 R) (q : Q (.list ((s.map fun p => p.1.sum).map .int))) :
    lcGo G wYes W η (s.map W2.prD) [] Q := by
  refine lc_fm W2.prD (fun p => some (.int p.1.sum)) s (fun p hp R hR => step p _ hR) (le_line (by omega)) ?_
  rw [fm_map]
  have e : s.map (fun p => PyData.int p.1.sum) = (s.map fun p => p.1.sum).map .int := by rw [List.map_map]; rfl
  rw [e]
  exact q
theorem deg_end {s : List LI} {Q : W2.D → Prop} (hl : s.length ≤ 100000) (q : Q (.int (degS s))) : gCat (.list [.int (-1)]) (.list ((s.map fun p => p.1.sum).map .int)) fun x => gMaxX [x] Q := by
  refine ⟨le_line (by show 1 + _ ≤ _; rw [List.length_map, List.length_map]; omega), ?_⟩
  exact maxX_go (l := s.map fun p => p.1.sum) (a := -1) q
theorem hw_deg (ds : List W2.D) (Q : W2.D → Prop) (_ : ds.length = 1) (h : wf_deg ds Q) : wb_degree_of { nx := fun _ => Q .none, rt := Q } (startE ["poly", "powers", "number"] (ds.map .fz)) := by
  obtain ⟨s, rfl, hl, q⟩ := h
  refine ⟨(show 1 ≤ sizeLine by decide), ?_⟩
  exact deg_go hl (fun p R hR => ⟨rfl, p.1, intsOf_map _, hR⟩) (deg_end hl q)
def partS (s : List LI) (d : Int) : List LI := s.filter fun p => p.1.sum == d
def wf_part : WF := fun ds Q => ∃ (s : List LI) (d : Int), ds = [rsD s, .int d] ∧ s.length ≤ 100000 ∧ Q (rsD (partS s d))
theorem part_go {s : List LI} {d : Int} {G : WG} {T : WT} {W : WE} {η : En} {Q : W2.D → Prop} (hl : s.length ≤ 100000)
    (step : ∀ (p : LI) (R : Option W2.D → Prop), (if (p.1.sum == d) = true then R (some (W2.prD p)) else R none) → G (W2.prD p) η fun η1 => T η1 fun k => if k = true then W η1 fun y => R (some y) else R none) (q : Q (.list ((partS s d).map W2.prD))) :
    lcGo G T W η (s.map W2.prD) [] Q := by
  refine lc_fm W2.prD (fun p => if (p.1.sum == d) = true then some (W2.prD p) else none) s (fun p hp R hR => step p R (optR hR)) (le_line (by omega)) ?_
  rw [filterMap_some]
  exact q
theorem hw_part (ds : List W2.D) (Q : W2.D → Prop) (_ : ds.length = 2) (h : wf_part ds Q) : wb_part_of_degree { nx := fun _ => Q .none, rt := Q } (startE ["poly", "degree", "pair"] (ds.map .fz)) := by
  obtain ⟨s, d, rfl, hl, q⟩ := h
  exact part_go hl (fun p R hR => ⟨_, rfl, p.1, intsOf_map _, eqOk_of rfl rfl, hR⟩) q
def wf_high : WF := fun ds Q => ∃ s : List LI, ds = [rsD s] ∧ s.length ≤ 100000 ∧ Q (rsD (partS s (degS s)))
theorem hw_high (ds : List W2.D) (Q : W2.D → Prop) (_ : ds.length = 1) (h : wf_high ds Q) : wb_highest_part wf_part wf_deg { nx := fun _ => Q .none, rt := Q } (startE ["poly"] (ds.map .fz)) := by
  obtain ⟨s, rfl, hl, q⟩ := h
  exact ⟨rfl, s, rfl, hl, rfl, s, _, rfl, hl, q⟩
def wf_at : WF := fun ds Q => ∃ (s : List LI) (l : List Int), ds = [rsD s, lotD l] ∧ Keys s ∧ Q (.int (val s l))
theorem hw_at (ds : List W2.D) (Q : W2.D → Prop) (_ : ds.length = 2) (h : wf_at ds Q) : wb_number_at { nx := fun _ => Q .none, rt := Q } (startE ["poly", "powers"] (ds.map .fz)) := by
  obtain ⟨s, l, rfl, hk, q⟩ := h
  refine dict_rs hk ?_
  refine ⟨keyOk_lot l, kindOk_mp s l, ?_⟩
  show Q ((dGet (s.map mpE) (lotD l)).getD (.int 0))
  rw [dGet_val]
  exact q
end Po

set_option Elab.async false
set_option linter.all false
set_option maxRecDepth 100000
/-! W3B: worths of polynomials at heights; polynomials, plain. -/
namespace Po
open PySem PySem.Spec PyProof.Rows L2 W2 PySem.W Sm

def at_ (k : List Int) (j : Int) : Int := k.getD j.toNat 0
theorem at_row {r : List Int} {c : Int} (h0 : 0 ≤ c) (h1 : c < r.length) : L2.atI (r.map PyData.int) c = some (.int (at_ r c)) := by
  have hi : c.toNat < r.length := by omega
  unfold L2.atI ixN
  rw [List.length_map, if_pos h0, if_pos (by omega)]
  show (r.map PyData.int)[c.toNat]? = _
  rw [List.getElem?_map, List.getElem?_eq_getElem hi]
  unfold at_
  rw [List.getD_eq_getElem?_getD, List.getElem?_eq_getElem hi]
  rfl
theorem ix_row {r : List Int} {c : Int} {P : W2.D → Prop} (h0 : 0 ≤ c) (h1 : c < r.length) (h : P (.int (at_ r c))) : gIxA (lotD r) (.int c) P := ⟨_, at_row h0 h1, h⟩
def rises (k : List Int) : List Int := (k.drop 1).map fun x => x - at_ k 0
def mulq (a : Int) (q : Int × Int) : Int := a * q.1 ^ q.2.toNat
def mono (rs k : List Int) : Int := (List.zip rs k).foldl mulq 1
theorem mulq_fold : ∀ (l : List (Int × Int)) (a : Int), l.foldl mulq a = a * l.foldl mulq 1
  | [], a => (Int.mul_one a).symm
  | q :: l, a => by
    rw [List.foldl_cons, List.foldl_cons, mulq_fold l (mulq a q), mulq_fold l (mulq 1 q)]
    unfold mulq
    rw [Int.one_mul, Int.mul_assoc]
def worth (s : List LI) (k : List Int) : Int := ev (mono (rises k)) s
theorem worth_fold (rs : List Int) : ∀ (s : List LI) (t : Int), s.foldl (fun t p => t + (List.zip rs p.1).foldl mulq p.2) t = t + ev (mono rs) s
  | [], t => (Int.add_zero t).symm
  | p :: s, t => by
    rw [List.foldl_cons, worth_fold rs s, ev_cons, mulq_fold]
    unfold mono
    omega
/-! bits -/
def Bd (j : Nat) (a : Int) : Prop := a.natAbs < 2 ^ (200 + 8 * j)
theorem Bd.mul {j : Nat} {a r : Int} (h : Bd j a) (hr : r.natAbs ≤ 200) : Bd (j + 1) (a * r) := by
  have := wide_lt h (show r.natAbs < 2 ^ 8 by omega)
  unfold Bd
  rw [show 200 + 8 * (j + 1) = 200 + 8 * j + 8 by omega]
  exact this
theorem Bd.pow {j : Nat} {a r : Int} (h : Bd j a) (hr : r.natAbs ≤ 200) : ∀ i : Nat, Bd (j + i) (a * r ^ i)
  | 0 => by rw [Int.pow_zero, Int.mul_one]; exact h
  | i + 1 => by
    rw [Int.pow_succ, ← Int.mul_assoc]
    exact (Bd.pow h hr i).mul hr
theorem Bd.ok {j : Nat} {a r : Int} (h : Bd j a) (hr : r.natAbs ≤ 200) (hj : j ≤ 1000) : CMulW a r := wide_mul h (show r.natAbs < 2 ^ 8 by omega) (by omega) (by omega) (by omega)
/-- m letters, of degree d at most -/
structure Pk (m d : Nat) (k : List Int) : Prop where
  len : k.length = m
  nn : ∀ x ∈ k, 0 ≤ x
  deg : k.sum ≤ d
structure PP (m d : Nat) (s : List LI) : Prop where
  nf : Nf s
  pk : ∀ p ∈ s, Pk m d p.1
structure HtOk (m : Nat) (k : List Int) : Prop where
  len : k.length = m + 1
  few : m ≤ 100
  small : ∀ x ∈ k, x.natAbs ≤ 100
theorem at_mem {k : List Int} (h : 0 < k.length) : at_ k 0 ∈ k := by
  unfold at_
  rw [List.getD_eq_getElem?_getD, List.getElem?_eq_getElem (by simpa using h)]
  exact List.getElem_mem _
theorem HtOk.rise {m : Nat} {k : List Int} (h : HtOk m k) : (rises k).length = m ∧ ∀ x ∈ rises k, x.natAbs ≤ 200 := by
  refine ⟨by unfold rises; rw [List.length_map, List.length_drop, h.len]; omega, fun x hx => ?_⟩
  obtain ⟨y, hy, rfl⟩ := List.mem_map.mp hx
  have h1 := h.small y (List.mem_of_mem_drop hy)
  have h2 := h.small _ (at_mem (k := k) (by rw [h.len]; omega))
  omega
theorem sum_nn : ∀ l : List Int, (∀ x ∈ l, 0 ≤ x) → 0 ≤ l.sum
  | [], _ => Int.le_refl _
  | z :: l, h => by rw [List.sum_cons]; have := h z List.mem_cons_self; have := sum_nn l fun w hw => h w (List.mem_cons_of_mem _ hw); omega
theorem zip_sum : ∀ (a b : List Int), (∀ x ∈ b, 0 ≤ x) → ((List.zip a b).map fun q => q.2.toNat).sum ≤ b.sum.toNat
  | [], b, _ => Nat.zero_le _
  | _ :: _, [], _ => Nat.zero_le _
  | x :: a, y :: b, h => by
    have ih := zip_sum a b fun z hz => h z (List.mem_cons_of_mem _ hz)
    have h0 := h y List.mem_cons_self
    have hb : 0 ≤ b.sum := sum_nn b fun z hz => h z (List.mem_cons_of_mem _ hz)
    rw [List.zip_cons_cons, List.map_cons, List.sum_cons, List.sum_cons]
    show y.toNat + _ ≤ _
    omega
theorem term_fin : ∀ (l : List (Int × Int)) (s : Nat × Int), (l.foldl (fun s q => (s.1 + q.2.toNat, mulq s.2 q)) s).2 = l.foldl mulq s.2
  | [], s => rfl
  | q :: l, s => by rw [List.foldl_cons, List.foldl_cons, term_fin l]
theorem cut1 (r : List Int) : W2.cutD (r.map PyData.int) (some 1) none = (r.drop 1).map .int := cutDr PyData.int r 1
theorem nrm_bd {s : List LI} (h : nrm s < 2 ^ 200) {p : LI} (hp : p ∈ s) : Bd 0 p.2 := Nat.lt_of_le_of_lt (nrm_mem hp) h
def wf_worth : WF := fun ds Q => ∃ (m d : Nat) (s : List LI) (k : List Int), ds = [rsD s, lotD k] ∧ PP m d s ∧ d ≤ 500 ∧ nrm s < 2 ^ 200 ∧ HtOk m k ∧ Q (.int (worth s k))
theorem hw_worth (ds : List W2.D) (Q : W2.D → Prop) (_ : ds.length = 2) (h : wf_worth ds Q) : wb_worth_of { nx := fun _ => Q .none, rt := Q } (startE ["poly", "heights", "total", "rises", "powers", "number", "rise", "power", "lap", "height"] (ds.map .fz)) := by
  obtain ⟨m, d, poly, k, rfl, po, hd, hb, ht, q⟩ := h
  obtain ⟨rl, rb⟩ := ht.rise
  show lcGo _ _ _ [.fz (rsD poly), .fz (lotD k), .un, .un, .un, .un, .un, .un, .un, .un] (W2.cutD (k.map PyData.int) (some 1) none) [] _
  rw [cut1]
  refine lc_fm PyData.int (fun x => some (.int (x - at_ k 0))) (k.drop 1) (fun x hx R hR => ?_) (le_line (by rw [List.length_drop, ht.len]; have := ht.few; omega)) ?_
  · refine ix_row (r := k) (Int.le_refl 0) (by rw [ht.len]; omega) ?_
    exact hR
  rw [fm_map fun x => PyData.int (x - at_ k 0)]
  have e : (k.drop 1).map (fun x => PyData.int (x - at_ k 0)) = (rises k).map PyData.int := by unfold rises; rw [List.map_map]; rfl
  rw [e]
  refine ⟨rfl, ?_⟩
  show forGo _ _ _ (poly.map W2.prD) [.fz (rsD poly), .fz (lotD k), .fz (.int 0), .fz (.list ((rises k).map .int)), .un, .un, .un, .un, .un, .un]
  refine for_fold W2.prD (fun (t : Int) η => ∃ c4 c5 c6 c7 c8 c9, η = [.fz (rsD poly), .fz (lotD k), .fz (.int t), .fz (.list ((rises k).map .int)), c4, c5, c6, c7, c8, c9]) (fun t p => t + (List.zip (rises k) p.1).foldl mulq p.2) poly 0 _ ⟨_, _, _, _, _, _, rfl⟩ (fun p hp t η hI Kc hK => ?_) (fun η hI => ?_)
  · obtain ⟨c4, c5, c6, c7, c8, c9, rfl⟩ := hI
    have pl := (po.pk p hp).len
    have pn := (po.pk p hp).nn
    have pd := (po.pk p hp).deg
    refine ⟨rfl, (fun _ => by show (((rises k).map PyData.int).length = (p.1.map PyData.int).length); rw [List.length_map, List.length_map, rl, pl]), ?_⟩
    show forGo _ _ _ ((zipD ((rises k).map PyData.int) (p.1.map PyData.int)).map PyData.tuple) [.fz (rsD poly), .fz (lotD k), .fz (.int t), .fz (.list ((rises k).map .int)), .fz (lotD p.1), .fz (.int p.2), c6, c7, c8, c9]
    rw [zip_rd]
    have zs := zip_sum (rises k) p.1 pn
    refine for_foldW rdD (fun (s : Nat × Int) η => Bd s.1 s.2 ∧ ∃ c6 c7 c8 c9, η = [.fz (rsD poly), .fz (lotD k), .fz (.int t), .fz (.list ((rises k).map .int)), .fz (lotD p.1), .fz (.int s.2), c6, c7, c8, c9])
      (fun s q => (s.1 + q.2.toNat, mulq s.2 q)) (fun s => s.1) (fun q => q.2.toNat) (fun s x => Nat.le_refl _) (B := 500) (List.zip (rises k) p.1) (0, p.2) _ ⟨nrm_bd hb hp, _, _, _, _, rfl⟩ (by show 0 + _ ≤ 500; omega) (fun x hx s η hI hB Kc2 hK2 => ?_) (fun η hI => ?_)
    · obtain ⟨bd, c6, c7, c8, c9, rfl⟩ := hI
      have hx1 : x.1.natAbs ≤ 200 := rb x.1 (List.of_mem_zip (a := x.1) (b := x.2) hx).1
      have hx2 : 0 ≤ x.2 := pn x.2 (List.of_mem_zip (a := x.1) (b := x.2) hx).2
      have hB' : s.1 + x.2.toNat ≤ 500 := hB
      refine ⟨rfl, ⟨by omega, by omega⟩, ?_⟩
      show forGo _ _ _ ((List.range x.2.toNat).map fun i => .int (0 + (i : Nat))) _
      refine for_ix _ (fun i η => ∃ c8, η = [.fz (rsD poly), .fz (lotD k), .fz (.int t), .fz (.list ((rises k).map .int)), .fz (lotD p.1), .fz (.int (s.2 * x.1 ^ i)), .fz (.int x.1), .fz (.int x.2), c8, c9]) (fun i hi η hI Kc3 hK3 => ?_) (fun η hI => ?_) ⟨c8, by rw [Int.pow_zero, Int.mul_one]; rfl⟩
      · obtain ⟨c8, rfl⟩ := hI
        refine ⟨(bd.pow hx1 i).ok hx1 (by omega), ?_⟩
        refine hK3 _ ⟨.fz (.int (0 + (i : Int))), ?_⟩
        rw [Int.pow_succ, ← Int.mul_assoc]
        rfl
      · obtain ⟨c8, rfl⟩ := hI
        exact hK2 _ ⟨bd.pow hx1 _, _, _, _, _, rfl⟩
    · obtain ⟨_, c6, c7, c8, c9, rfl⟩ := hI
      rw [term_fin]
      exact hK _ ⟨_, _, _, _, _, _, rfl⟩
  · obtain ⟨c4, c5, c6, c7, c8, c9, rfl⟩ := hI
    rw [worth_fold, Int.zero_add]
    exact q
/-! ### plain -/
theorem mono_padd : ∀ {rs a b : List Int}, a.length = rs.length → b.length = rs.length → (∀ x ∈ a, 0 ≤ x) → (∀ x ∈ b, 0 ≤ x) → mono rs (padd a b) = mono rs a * mono rs b
  | [], [], [], _, _, _, _ => rfl
  | r :: rs, x :: a, y :: b, h1, h2, ha, hb => by
    have ih := mono_padd (rs := rs) (a := a) (b := b) (by simpa using h1) (by simpa using h2) (fun z hz => ha z (List.mem_cons_of_mem _ hz)) fun z hz => hb z (List.mem_cons_of_mem _ hz)
    have hx := ha x List.mem_cons_self
    have hy := hb y List.mem_cons_self
    unfold mono padd at ih ⊢
    rw [List.zipWith_cons_cons, List.zip_cons_cons, List.zip_cons_cons, List.zip_cons_cons, List.foldl_cons, List.foldl_cons, List.foldl_cons, mulq_fold, mulq_fold _ (mulq 1 (r, x)), mulq_fold _ (mulq 1 (r, y)), ih]
    unfold mulq
    have e : (x + y).toNat = x.toNat + y.toNat := by omega
    show (1 * r ^ (x + y).toNat) * _ = (1 * r ^ x.toNat * _) * (1 * r ^ y.toNat * _)
    rw [e, Int.pow_add, Int.one_mul, Int.one_mul, Int.one_mul]
    simp only [Int.mul_assoc, Int.mul_left_comm]
  | r :: rs, [], _, h1, _, _, _ => by simp at h1
  | [], x :: a, _, h1, _, _, _ => by simp at h1
  | [], [], y :: b, _, h2, _, _ => by simp at h2
  | r :: rs, x :: a, [], _, h2, _, _ => by simp at h2
theorem sum_padd : ∀ {a b : List Int}, a.length = b.length → (padd a b).sum = a.sum + b.sum
  | [], [], _ => rfl
  | x :: a, y :: b, h => by
    have ih := sum_padd (a := a) (b := b) (by simpa using h)
    unfold padd at ih ⊢
    rw [List.zipWith_cons_cons, List.sum_cons, List.sum_cons, List.sum_cons, ih]
    omega
  | [], _ :: _, h => by simp at h
  | _ :: _, [], h => by simp at h
theorem padd_nn : ∀ {a b : List Int}, (∀ x ∈ a, 0 ≤ x) → (∀ x ∈ b, 0 ≤ x) → ∀ x ∈ padd a b, 0 ≤ x
  | [], _, _, _, x, h => by cases h
  | _ :: _, [], _, _, x, h => by cases h
  | u :: a, v :: b, ha, hb, x, h => by
    unfold padd at h
    rw [List.zipWith_cons_cons] at h
    rcases List.mem_cons.mp h with e | e
    · have h1 := ha u List.mem_cons_self
      have h2 := hb v List.mem_cons_self
      omega
    · exact padd_nn (fun z hz => ha z (List.mem_cons_of_mem _ hz)) (fun z hz => hb z (List.mem_cons_of_mem _ hz)) x e
theorem Pk.add {m d e : Nat} {a b : List Int} (ha : Pk m d a) (hb : Pk m e b) : Pk m (d + e) (padd a b) := by
  have hl : a.length = b.length := ha.len.trans hb.len.symm
  refine ⟨(padd_len hl).trans ha.len, padd_nn ha.nn hb.nn, ?_⟩
  rw [sum_padd hl]
  have h1 := ha.deg
  have h2 := hb.deg
  omega
theorem Pk.mono {m d e : Nat} {a : List Int} (h : Pk m d a) (hd : d ≤ e) : Pk m e a := ⟨h.len, h.nn, by have := h.deg; omega⟩
theorem PP.mono {m d e : Nat} {s : List LI} (h : PP m d s) (hd : d ≤ e) : PP m e s := ⟨h.nf, fun p hp => (h.pk p hp).mono hd⟩
theorem PP.mul {m d e : Nat} {s t : List LI} (hs : PP m d s) (ht : PP m e t) : PP m (d + e) (pmul s t) := ⟨nf_mul pop s t, mul_mem fun p hp q hq k h => by
  cases h
  exact (hs.pk p hp).add (ht.pk q hq)⟩
theorem PP.sum {m d : Nat} {s t : List LI} {c : Int} (hs : PP m d s) (ht : PP m d t) : PP m d (psum s t c) := ⟨psum_nf hs.nf.keys, psum_mem hs.pk ht.pk⟩
theorem pp_nil (m d : Nat) : PP m d [] := ⟨nf_nil, fun _ h => nomatch h⟩
theorem pmul_comm (s t : List LI) : pmul s t = pmul t s := mul_comm fun p _ q _ => congrArg some (padd_comm p.1 q.1)
theorem pmul_assoc (s t u : List LI) : pmul (pmul s t) u = pmul s (pmul t u) := mul_assoc fun p _ q _ r _ => congrArg some (padd_assoc p.1 q.1 r.1)
theorem worth_mul {m d e : Nat} {s t : List LI} {k : List Int} (hs : PP m d s) (ht : PP m e t) (hk : (rises k).length = m) : worth (pmul s t) k = worth s k * worth t k := by
  unfold worth pmul
  rw [ev_mul]
  have e1 : ev (fun a => ev (fun b => fo (mono (rises k)) (pop a b)) t) s = ev (fun a => mono (rises k) a * ev (mono (rises k)) t) s := ev_congr fun p hp => by
    have h1 := hs.pk p hp
    unfold ev
    rw [← sm_mul]
    refine sm_congr fun q hq => ?_
    have h2 := ht.pk q hq
    show q.2 * mono (rises k) (padd p.1 q.1) = _
    rw [mono_padd (h1.len.trans hk.symm) (h2.len.trans hk.symm) h1.nn h2.nn, Int.mul_left_comm]
  rw [e1]
  unfold ev
  rw [Int.mul_comm (sm _ s), ← sm_mul]
  exact sm_congr fun p _ => by
    show p.2 * (mono (rises k) p.1 * _) = _
    rw [Int.mul_comm (mono _ _), Int.mul_left_comm]
theorem worth_sum {s t : List LI} {c : Int} {k : List Int} (hs : Keys s) : worth (psum s t c) k = worth s k + c * worth t k := psum_ev hs _
theorem PP.mulOk {m d e : Nat} {s t : List LI} (hs : PP m d s) (ht : PP m e t) (hm : m ≤ 1000) (hl : s.length * t.length ≤ 100000) (h1 : nrm s < 2 ^ 200) (h2 : nrm t < 2 ^ 200) : MulOk s t := by
  refine ⟨hl, fun p hp => ⟨small_pow (k := 200) (Nat.lt_of_le_of_lt (nrm_mem hp) h1) (by decide), ?_⟩, fun p hp => small_pow (k := 200) (Nat.lt_of_le_of_lt (nrm_mem hp) h2) (by decide), fun p hp q hq => (hs.pk p hp).len.trans (ht.pk q hq).len.symm⟩
  rw [(hs.pk p hp).len]
  omega
/-! degrees of products -/
theorem fold_max_ge : ∀ (l : List Int) (a : Int), a ≤ l.foldl max a ∧ ∀ x ∈ l, x ≤ l.foldl max a
  | [], a => ⟨Int.le_refl _, fun _ h => nomatch h⟩
  | y :: l, a => by
    obtain ⟨h1, h2⟩ := fold_max_ge l (max a y)
    rw [List.foldl_cons]
    refine ⟨by omega, fun x hx => ?_⟩
    rcases List.mem_cons.mp hx with e | e
    · subst e; omega
    · exact h2 x e
theorem fold_max_mem : ∀ (l : List Int) (a : Int), l.foldl max a = a ∨ l.foldl max a ∈ l
  | [], a => .inl rfl
  | y :: l, a => by
    rw [List.foldl_cons]
    rcases fold_max_mem l (max a y) with h | h
    · rw [h]
      rcases Int.le_total a y with c | c
      · exact .inr (by rw [Int.max_eq_right c]; exact List.mem_cons_self)
      · exact .inl (Int.max_eq_left c)
    · exact .inr (List.mem_cons_of_mem _ h)
theorem degS_ge {s : List LI} {p : LI} (hp : p ∈ s) : p.1.sum ≤ degS s := (fold_max_ge _ (-1)).2 _ (List.mem_map_of_mem hp)
theorem degS_neg (s : List LI) : -1 ≤ degS s := (fold_max_ge _ (-1)).1
theorem degS_le {s : List LI} {d : Int} (h0 : -1 ≤ d) (h : ∀ p ∈ s, p.1.sum ≤ d) : degS s ≤ d := by
  rcases fold_max_mem (s.map fun p => p.1.sum) (-1) with e | e
  · unfold degS; omega
  · obtain ⟨p, hp, e'⟩ := List.mem_map.mp e
    have := h p hp
    unfold degS
    omega
theorem degS_has {m d : Nat} {s : List LI} (hs : PP m d s) (h : s ≠ []) : ∃ p ∈ s, p.1.sum = degS s := by
  rcases fold_max_mem (s.map fun p => p.1.sum) (-1) with e | e
  · obtain ⟨p, hp⟩ := List.exists_mem_of_ne_nil s h
    have h1 := degS_ge hp
    have h2 := sum_nn p.1 (hs.pk p hp).nn
    have h3 : degS s = -1 := e
    omega
  · obtain ⟨p, hp, e'⟩ := List.mem_map.mp e
    exact ⟨p, hp, e'⟩
end Po

set_option Elab.async false
set_option linter.all false
set_option maxRecDepth 100000
set_option autoImplicit false
/-! W3C: the degree of a product of polynomials. -/
namespace Po
open PySem PySem.Spec PyProof.Rows L2 W2 PySem.W Sm

def llt : List Int → List Int → Prop
  | x :: a, y :: b => x < y ∨ (x = y ∧ llt a b)
  | _, _ => False
theorem llt_total : ∀ {a b : List Int}, a.length = b.length → llt a b ∨ a = b ∨ llt b a
  | [], [], _ => .inr (.inl rfl)
  | x :: a, y :: b, h => by
    rcases Int.lt_trichotomy x y with c | c | c
    · exact .inl (.inl c)
    · subst c
      rcases llt_total (a := a) (b := b) (by simpa using h) with e | e | e
      · exact .inl (.inr ⟨rfl, e⟩)
      · subst e; exact .inr (.inl rfl)
      · exact .inr (.inr (.inr ⟨rfl, e⟩))
    · exact .inr (.inr (.inl c))
  | [], _ :: _, h => by simp at h
  | _ :: _, [], h => by simp at h
theorem llt_irrefl : ∀ a : List Int, ¬ llt a a
  | [], h => h
  | x :: a, h => by
    rcases h with h | h
    · omega
    · exact llt_irrefl a h.2
theorem llt_trans : ∀ {a b c : List Int}, llt a b → llt b c → llt a c
  | x :: a, y :: b, z :: c, h1, h2 => by
    rcases h1 with h1 | ⟨e1, h1⟩
    · rcases h2 with h2 | ⟨e2, h2⟩
      · exact .inl (by omega)
      · exact .inl (by omega)
    · rcases h2 with h2 | ⟨e2, h2⟩
      · exact .inl (by omega)
      · exact .inr ⟨by omega, llt_trans h1 h2⟩
  | [], _, _, h1, _ => h1.elim
  | _ :: _, [], _, h1, _ => h1.elim
  | _ :: _, _ :: _, [], _, h2 => h2.elim
theorem llt_add : ∀ {a a0 b b0 : List Int}, a.length = b.length → a0.length = b0.length → llt a a0 → (llt b b0 ∨ b = b0) → llt (padd a b) (padd a0 b0)
  | x :: a, x0 :: a0, y :: b, y0 :: b0, h1, h2, ha, hb => by
    have l1 : a.length = b.length := by simpa using h1
    have l2 : a0.length = b0.length := by simpa using h2
    unfold padd
    rw [List.zipWith_cons_cons, List.zipWith_cons_cons]
    rcases ha with ha | ⟨e, ha⟩
    · refine .inl ?_
      rcases hb with (hb | hb) | hb
      · omega
      · omega
      · have := (List.cons.inj hb).1; omega
    · rcases hb with (hb | ⟨e', hb⟩) | hb
      · exact .inl (by omega)
      · exact .inr ⟨by omega, llt_add l1 l2 ha (.inl hb)⟩
      · have e2 := (List.cons.inj hb)
        exact .inr ⟨by omega, llt_add l1 l2 ha (.inr e2.2)⟩
  | [], _, _, _, _, _, ha, _ => ha.elim
  | _ :: _, [], _, _, _, _, ha, _ => ha.elim
  | _ :: _, _ :: _, [], _, h1, _, _, _ => by simp at h1
  | _ :: _, _ :: _, _ :: _, [], _, h2, _, _ => by simp at h2
/-- by degree, then by the powers -/
def gk (k : List Int) : List Int := k.sum :: k
theorem gk_padd {a b : List Int} (h : a.length = b.length) : gk (padd a b) = padd (gk a) (gk b) := by
  unfold gk
  rw [sum_padd h]
  rfl
theorem has_top {m : Nat} : ∀ {s : List LI}, (∀ p ∈ s, p.1.length = m) → s ≠ [] → ∃ p ∈ s, ∀ q ∈ s, llt (gk q.1) (gk p.1) ∨ q.1 = p.1
  | [], _, h => absurd rfl h
  | [p], _, _ => ⟨p, List.mem_cons_self, fun q hq => .inr (by rw [List.mem_singleton] at hq; rw [hq])⟩
  | p :: q :: r, hl, _ => by
    obtain ⟨t, ht, hm⟩ := has_top (s := q :: r) (fun x hx => hl x (List.mem_cons_of_mem _ hx)) (by simp)
    have l1 := hl p List.mem_cons_self
    have l2 := hl t (List.mem_cons_of_mem _ ht)
    rcases llt_total (a := gk p.1) (b := gk t.1) (by unfold gk; rw [List.length_cons, List.length_cons, l1, l2]) with c | c | c
    · refine ⟨t, List.mem_cons_of_mem _ ht, fun x hx => ?_⟩
      rcases List.mem_cons.mp hx with e | e
      · subst e; exact .inl c
      · exact hm x e
    · refine ⟨t, List.mem_cons_of_mem _ ht, fun x hx => ?_⟩
      rcases List.mem_cons.mp hx with e | e
      · subst e; exact .inr (List.cons.inj c).2
      · exact hm x e
    · refine ⟨p, List.mem_cons_self, fun x hx => ?_⟩
      rcases List.mem_cons.mp hx with e | e
      · subst e; exact .inr rfl
      · rcases hm x e with h | h
        · exact .inl (llt_trans h c)
        · exact .inl (by rw [h]; exact c)
theorem ev_single {s : List LI} (hk : Keys s) {p0 : LI} (hp : p0 ∈ s) {f : List Int → Int} (h : ∀ p ∈ s, p.1 ≠ p0.1 → f p.1 = 0) : ev f s = p0.2 * f p0.1 := by
  induction s with
  | nil => cases hp
  | cons p r ih =>
    have h' := List.nodup_cons.mp (show ((p :: r).map (·.1)).Nodup from hk)
    rw [ev_cons]
    rcases List.mem_cons.mp hp with e | e
    · subst e
      have z : ev f r = 0 := by
        have : ev f r = ev (fun _ => 0) r := ev_congr fun q hq => h q (List.mem_cons_of_mem _ hq) fun z => h'.1 (by show p0.1 ∈ _; rw [← z]; exact List.mem_map_of_mem hq)
        rw [this]
        unfold ev
        rw [sm_congr (g := fun _ => 0) fun p _ => Int.mul_zero _, sm_zero]
      rw [z]
      omega
    · have ne : p.1 ≠ p0.1 := fun z => h'.1 (by show p.1 ∈ _; rw [z]; exact List.mem_map_of_mem e)
      rw [h p List.mem_cons_self ne, ih h'.2 e fun q hq => h q (List.mem_cons_of_mem _ hq)]
      omega
theorem prod_top {m d e : Nat} {s t : List LI} (hs : PP m d s) (ht : PP m e t) (ns : s ≠ []) (nt : t ≠ []) : degS (pmul s t) = degS s + degS t := by
  obtain ⟨p0, hp0, top1⟩ := has_top (m := m) (fun p hp => (hs.pk p hp).len) ns
  obtain ⟨q0, hq0, top2⟩ := has_top (m := m) (fun p hp => (ht.pk p hp).len) nt
  have d1 : p0.1.sum = degS s := by
    refine Int.le_antisymm (degS_ge hp0) ?_
    refine degS_le (by have := sum_nn p0.1 (hs.pk p0 hp0).nn; omega) fun p hp => ?_
    rcases top1 p hp with h | h
    · rcases h with h | h
      · omega
      · omega
    · rw [h]; exact Int.le_refl _
  have d2 : q0.1.sum = degS t := by
    refine Int.le_antisymm (degS_ge hq0) ?_
    refine degS_le (by have := sum_nn q0.1 (ht.pk q0 hq0).nn; omega) fun p hp => ?_
    rcases top2 p hp with h | h
    · rcases h with h | h
      · omega
      · omega
    · rw [h]; exact Int.le_refl _
  have lp : ∀ p ∈ s, ∀ q ∈ t, p.1.length = q.1.length := fun p hp q hq => (hs.pk p hp).len.trans (ht.pk q hq).len.symm
  have lg : ∀ p ∈ s, ∀ q ∈ t, (gk p.1).length = (gk q.1).length := fun p hp q hq => by unfold gk; rw [List.length_cons, List.length_cons, lp p hp q hq]
  have ne1 : ∀ p ∈ s, ∀ q ∈ t, p.1 ≠ p0.1 → padd p.1 q.1 ≠ padd p0.1 q0.1 := fun p hp q hq hne z => by
    have h1 : llt (gk p.1) (gk p0.1) := (top1 p hp).resolve_right hne
    have h2 : llt (gk q.1) (gk q0.1) ∨ gk q.1 = gk q0.1 := (top2 q hq).imp id fun h => by rw [h]
    have h3 := llt_add (lg p hp q hq) (lg p0 hp0 q0 hq0) h1 h2
    rw [← gk_padd (lp p hp q hq), ← gk_padd (lp p0 hp0 q0 hq0), z] at h3
    exact llt_irrefl _ h3
  have ne2 : ∀ q ∈ t, q.1 ≠ q0.1 → padd p0.1 q.1 ≠ padd p0.1 q0.1 := fun q hq hne z => by
    have h2 : llt (gk q.1) (gk q0.1) := (top2 q hq).resolve_right hne
    have h3 := llt_add (lg p0 hp0 q hq).symm (lg p0 hp0 q0 hq0).symm h2 (.inr rfl : _ ∨ gk p0.1 = gk p0.1)
    rw [padd_comm (gk q.1), padd_comm (gk q0.1), ← gk_padd (lp p0 hp0 q hq), ← gk_padd (lp p0 hp0 q0 hq0), z] at h3
    exact llt_irrefl _ h3
  have v : val (pmul s t) (padd p0.1 q0.1) = p0.2 * q0.2 := by
    unfold pmul
    rw [val_ev (nf_mul pop s t).keys, ev_mul, ev_single hs.nf.keys hp0 fun p hp hne => ?_]
    · rw [ev_single ht.nf.keys hq0 fun q hq hne => ?_]
      · show p0.2 * (q0.2 * (if padd p0.1 q0.1 = padd p0.1 q0.1 then 1 else 0)) = _
        rw [if_pos rfl, Int.mul_one]
      · show (if padd p0.1 q.1 = padd p0.1 q0.1 then (1 : Int) else 0) = 0
        rw [if_neg (ne2 q hq hne)]
    · have : ev (fun b => fo (fun x => if x = padd p0.1 q0.1 then 1 else 0) (pop p.1 b)) t = ev (fun _ => 0) t := ev_congr fun q hq => by
        show (if padd p.1 q.1 = padd p0.1 q0.1 then (1 : Int) else 0) = 0
        rw [if_neg (ne1 p hp q hq hne)]
      rw [this]
      unfold ev
      rw [sm_congr (g := fun _ => 0) fun p _ => Int.mul_zero _, sm_zero]
  have nz : val (pmul s t) (padd p0.1 q0.1) ≠ 0 := by
    rw [v]
    exact Int.mul_ne_zero (hs.nf.nz hp0) (ht.nf.nz hq0)
  have hm := mem_val nz
  refine Int.le_antisymm ?_ ?_
  · refine degS_le (by have := degS_neg s; have := degS_neg t; have := sum_nn p0.1 (hs.pk p0 hp0).nn; have := sum_nn q0.1 (ht.pk q0 hq0).nn; omega) fun p hp => ?_
    refine mul_mem (op := pop) (P := fun k => k.sum ≤ degS s + degS t) (fun a ha b hb k h => ?_) p hp
    cases h
    rw [sum_padd (lp a ha b hb)]
    have := degS_ge ha
    have := degS_ge hb
    omega
  · have := degS_ge hm
    rw [show (padd p0.1 q0.1, val (pmul s t) (padd p0.1 q0.1)).1 = padd p0.1 q0.1 from rfl, sum_padd (lp p0 hp0 q0 hq0)] at this
    omega
end Po

set_option Elab.async false
set_option linter.all false
set_option maxRecDepth 100000
set_option autoImplicit false
/-! W3D: the order of rows of ints, told by the first that is unlike; ascending rows. -/
namespace Po
open PySem PySem.Spec PyProof.Rows L2 W2 PySem.W Sm

theorem lexAt_shift (e r : Nat → Bool) (z : Bool) : ∀ (k i : Nat), Ob.lexAt e r z (i + 1) k = Ob.lexAt (fun j => e (j + 1)) (fun j => r (j + 1)) z i k
  | 0, _ => rfl
  | k + 1, i => by rw [Ob.lexAt_succ, Ob.lexAt_succ, lexAt_shift e r z k (i + 1)]
theorem leTI_nil : leTI [] [] = true := rfl
theorem leTI_cons {x y : Int} {a b : List Int} (h : a.length = b.length) : leTI (x :: a) (y :: b) = if x = y then leTI a b else decide (x ≤ y) := by
  unfold leTI
  have e1 : min (x :: a).length (y :: b).length = min a.length b.length + 1 := by rw [List.length_cons, List.length_cons]; omega
  rw [e1, Ob.lexAt_succ, lexAt_shift]
  have e2 : decide ((x :: a).length ≤ (y :: b).length) = decide (a.length ≤ b.length) := by rw [List.length_cons, List.length_cons]; simp
  rw [e2]
  by_cases c : x = y
  · rw [if_pos c, if_pos (show decide ((x :: a).getD 0 0 = (y :: b).getD 0 0) = true from decide_eq_true c)]
    rfl
  · rw [if_neg c, if_neg (show ¬ decide ((x :: a).getD 0 0 = (y :: b).getD 0 0) = true from fun z => c (of_decide_eq_true z))]
    rfl
theorem leTI_llt : ∀ {a b : List Int}, a.length = b.length → (leTI a b = true ↔ ¬ llt b a)
  | [], [], _ => by rw [leTI_nil]; simp [llt]
  | x :: a, y :: b, h => by
    have h' : a.length = b.length := by simpa using h
    rw [leTI_cons h']
    by_cases c : x = y
    · subst c
      rw [if_pos rfl, leTI_llt h']
      constructor
      · intro n z
        rcases z with z | z
        · omega
        · exact n z.2
      · intro n z
        exact n (.inr ⟨rfl, z⟩)
    · rw [if_neg c, decide_eq_true_iff]
      constructor
      · intro n z
        rcases z with z | z
        · omega
        · exact c z.1.symm
      · intro n
        rcases Int.lt_or_le y x with z | z
        · exact absurd (Or.inl z) n
        · exact z
  | [], _ :: _, h => by simp at h
  | _ :: _, [], h => by simp at h
theorem lt_llt : ∀ {a b : List Int}, a.length = b.length → (a < b ↔ llt a b)
  | [], [], _ => by simp [llt]
  | x :: a, y :: b, h => by
    rw [List.cons_lt_cons_iff, lt_llt (a := a) (b := b) (by simpa using h)]
    exact Iff.rfl
  | [], _ :: _, h => by simp at h
  | _ :: _, [], h => by simp at h
theorem leL_llt {a b : List Int} (h : a.length = b.length) : leL a b = true ↔ ¬ llt b a := by
  rw [leL_is, decide_eq_true_iff, ← List.not_lt, lt_llt h.symm]
/-! the keys of a dict made of rows, first come first -/
def uk (L : List (List Int)) : List (List Int) := (L.foldl (fun m k => put m k 0) []).map (·.1)
theorem uk_keys (L : List (List Int)) : Keys (L.foldl (fun m k => put m k 0) []) := keys_fold (fun m k h => put_keys h) L [] keys_nil
theorem put_key_mem {m : List LI} {k : List Int} {v : Int} : k ∈ (put m k v).map (·.1) := by
  unfold put
  by_cases c : (m.any fun p => decide (p.1 = k)) = true
  · rw [if_pos c, over_keys]; exact any_key.mp c
  · rw [if_neg c, List.map_append]; exact List.mem_append.mpr (.inr (by simp))
theorem put_key_old {m : List LI} {k k' : List Int} {v : Int} (h : k' ∈ m.map (·.1)) : k' ∈ (put m k v).map (·.1) := by
  unfold put
  by_cases c : (m.any fun p => decide (p.1 = k)) = true
  · rw [if_pos c, over_keys]; exact h
  · rw [if_neg c, List.map_append]; exact List.mem_append.mpr (.inl h)
theorem uk_mem : ∀ (L : List (List Int)) (m : List LI) (k : List Int), k ∈ (L.foldl (fun m k => put m k 0) m).map (·.1) ↔ k ∈ L ∨ k ∈ m.map (·.1)
  | [], m, k => by simp
  | x :: L, m, k => by
    rw [List.foldl_cons, uk_mem L, List.mem_cons]
    constructor
    · rintro (h | h)
      · exact .inl (.inr h)
      · obtain ⟨p, hp, rfl⟩ := List.mem_map.mp h
        rcases put_mem hp with e | e
        · exact .inl (.inl e)
        · exact .inr (List.mem_map_of_mem e)
    · rintro ((h | h) | h)
      · exact .inr (by rw [h]; exact put_key_mem)
      · exact .inl h
      · exact .inr (put_key_old h)
theorem uk_nodup {L : List (List Int)} (h : L.Nodup) : uk L = L := by
  have go : ∀ (L : List (List Int)) (m : List LI), (m.map (·.1) ++ L).Nodup → (L.foldl (fun m k => put m k 0) m).map (·.1) = m.map (·.1) ++ L := by
    intro L
    induction L with
    | nil => intro m _; rw [List.append_nil]; rfl
    | cons k L ih =>
      intro m hn
      have hk : k ∉ m.map (·.1) := fun z => by
        rw [List.nodup_append] at hn
        exact hn.2.2 k z k List.mem_cons_self rfl
      rw [List.foldl_cons, put_new hk, ih _ (by rw [List.map_append, List.append_assoc]; exact hn), List.map_append, List.append_assoc]
      rfl
  exact go L [] h
/-- ascending, place by place; as a whole -/
def adj (L : List (List Int)) : Prop := ∀ j, j + 1 < L.length → leTI (L.getD (j + 1) []) (L.getD j []) = false
theorem adj_pair {m : Nat} : ∀ {L : List (List Int)}, (∀ k ∈ L, k.length = m) → (adj L ↔ L.Pairwise llt)
  | [], _ => ⟨fun _ => .nil, fun _ j h => by simp at h⟩
  | [x], _ => ⟨fun _ => List.pairwise_singleton _ _, fun _ j h => by simp at h⟩
  | x :: y :: r, hl => by
    have ih := adj_pair (L := y :: r) fun k hk => hl k (List.mem_cons_of_mem _ hk)
    have lx := hl x List.mem_cons_self
    have ly := hl y (List.mem_cons_of_mem _ List.mem_cons_self)
    have lt1 : leTI y x = false ↔ llt x y := by
      rw [← Bool.not_eq_true, leTI_llt (ly.trans lx.symm)]
      exact Classical.not_not
    constructor
    · intro h
      have hy : (y :: r).Pairwise llt := ih.mp fun j hj => h (j + 1) (by simpa using hj)
      have h0 : llt x y := lt1.mp (h 0 (by simp))
      refine List.pairwise_cons.mpr ⟨fun z hz => ?_, hy⟩
      rcases List.mem_cons.mp hz with e | e
      · subst e; exact h0
      · exact llt_trans h0 ((List.pairwise_cons.mp hy).1 z e)
    · intro h j hj
      cases j with
      | zero => exact lt1.mpr ((List.pairwise_cons.mp h).1 y List.mem_cons_self)
      | succ j => exact ih.mpr (List.pairwise_cons.mp h).2 j (by simpa using hj)
theorem llt_ne {a b : List Int} (h : llt a b) : a ≠ b := fun z => by subst z; exact llt_irrefl _ h
/-- a row of rows is the sorted keys of the dict made of it, just if it ascends -/
theorem sorted_iff {m : Nat} {L : List (List Int)} (hl : ∀ k ∈ L, k.length = m) : L = (uk L).mergeSort leL ↔ L.Pairwise llt := by
  constructor
  · intro h
    have hp : L.Perm (uk L) := by
      have := List.mergeSort_perm (uk L) leL
      rw [← h] at this
      exact this
    have nd : L.Nodup := hp.nodup_iff.mpr (uk_keys L)
    have pw : L.Pairwise fun a b => leL a b = true := by rw [h]; exact sort_pairwise leL_total _
    have pn := pw.and (List.nodup_iff_pairwise_ne.mp nd)
    refine List.Pairwise.imp_of_mem (fun {a b} ha hb h => ?_) pn
    have e := hl a ha
    have e' := hl b hb
    rcases llt_total (e.trans e'.symm) with c | c | c
    · exact c
    · exact absurd c h.2
    · exact absurd c ((leL_llt (e.trans e'.symm)).mp h.1)
  · intro h
    have nd : L.Nodup := List.nodup_iff_pairwise_ne.mpr (h.imp llt_ne)
    rw [uk_nodup nd]
    have pw : L.Pairwise fun a b => leL a b = true := List.Pairwise.imp_of_mem (fun {a b} ha hb h => (leL_llt ((hl a ha).trans (hl b hb).symm)).mpr fun z => llt_irrefl _ (llt_trans h z)) h
    exact List.Perm.eq_of_pairwise (le := fun a b => leL a b = true) (fun a b _ _ => leL_anti) pw (sort_pairwise leL_total _) (List.mergeSort_perm L leL).symm
end Po

set_option Elab.async false
set_option linter.all false
set_option maxRecDepth 100000
/-! W3E: what the laws say of polynomials themselves: told, added, multiplied, drawn (texts shared by many laws). -/
namespace Po
open PySem PySem.Spec PyProof.Rows L2 W2 PySem.W Sm

def wb__law_told : WS :=
  wRet (wCall gTuple (wCons (wCall gSorted (wCons (wLc (wItems (wN 0)) (wGn 1) (wTrB (w2 gNe (w2 gIxA (wB 0) (wN 1)) (wC (.int 0)))) (wTup (wCons (wN 1) (wCons (w2 gIxA (wB 0) (wN 1)) (wNil)))) [1]) (wNil))) (wNil)))
def wb__law_sum (wf__law_told : WF) : WS :=
  wSeq (wAsgL (wCall gDictX (wCons (wB 0) (wNil))) 3) (wSeq (wFor (wItems (wN 1)) (wGt 2 (wGcons (wGn 4) (wGcons (wGn 5) (wGnil)))) (wStore 3 (wN 4) (w2 gAdd (wGet2 (wB 3) (wN 4) (wC (.int 0))) (w2 gMulI (wB 2) (wB 5))))) (wFrz 3 (wRet (wFn 1 wf__law_told (wCons (wN 3) (wNil))))))
def wb__law_times (wf__law_told : WF) : WS :=
  wSeq (wAsgL (wDNew) 2) (wSeq (wFor (wItems (wN 0)) (wGt 2 (wGcons (wGn 3) (wGcons (wGn 4) (wGnil)))) (wFor (wItems (wN 1)) (wGt 2 (wGcons (wGn 5) (wGcons (wGn 6) (wGnil)))) (wSeq (wAsg (wCall gTuple (wCons (wLc (wZip false (wCons (wN 3) (wCons (wN 5) (wNil)))) (wGt 2 (wGcons (wGn 8) (wGcons (wGn 9) (wGnil)))) (wYes) (w2 gAdd (wB 8) (wB 9)) [8, 9]) (wNil))) (wGn 7)) (wStore 2 (wN 7) (w2 gAdd (wGet2 (wB 2) (wN 7) (wC (.int 0))) (w2 gMulI (wB 4) (wB 6))))))) (wFrz 2 (wRet (wFn 1 wf__law_told (wCons (wN 2) (wNil))))))
def wb__law_poly (wf__law_told : WF) : WS :=
  wSeq (wAsgL (wDNew) 4) (wSeq (wFor (wRng1 (wFnS 0 1 wfPick (wCons (wC (.int 6)) (wNil)))) (wGn 5) (wSeq (wAsgL (w2 gRepL (wLst (wCons (wC (.int 0)) (wNil))) (w2 gSubI (wB 1) (wC (.int 1)))) 6) (wSeq (wFor (wRng1 (wIfE (wTrB (w2 gGtI (wB 1) (wC (.int 1)))) (wFnS 0 1 wfPick (wCons (w2 gAdd (wB 2) (wC (.int 1))) (wNil))) (wC (.int 0)))) (wGn 7) (wSeq (wAsg (wFnS 0 1 wfPick (wCons (w2 gSubI (wB 1) (wC (.int 1))) (wNil))) (wGn 8)) (wStore 6 (wN 8) (w2 gAdd (w2 gIxA (wB 6) (wN 8)) (wC (.int 1)))))) (wStore 4 (wCall gTuple (wCons (wB 6) (wNil))) (w2 gSubI (wFnS 0 1 wfPick (wCons (w2 gAdd (w2 gMulI (wC (.int 2)) (wB 3)) (wC (.int 1))) (wNil))) (wB 3)))))) (wFrz 4 (wRet (wFn 1 wf__law_told (wCons (wN 4) (wNil))))))
def wf_ltold : WF := fun ds Q => ∃ m, ds = [mpD m] ∧ Keys m ∧ m.length ≤ 1000000 ∧ Q (rsD (W2.told m))
theorem hw_ltold (ds : List W2.D) (Q : W2.D → Prop) (_ : ds.length = 1) (h : wf_ltold ds Q) : wb__law_told { nx := fun _ => Q .none, rt := Q } (startE ["numbers", "powers"] (ds.map .fz)) := by
  obtain ⟨m, rfl, hk, hl, q⟩ := h
  have ek : (m.map mpE).map (·.1) = (m.map (·.1)).map lotD := by rw [List.map_map, List.map_map]; rfl
  have get : ∀ k, k ∈ m.map (·.1) → ∀ P : W2.D → Prop, P (.int (val m k)) → gIxA (mpD m) (lotD k) P := fun k hk P hP => by
    refine ⟨keyOk_lot k, kindOk_mp m k, .int (val m k), ?_, hP⟩
    have e := dGet_val m k
    rw [dGet_mp] at e ⊢
    obtain ⟨p, hp, e1⟩ := List.mem_map.mp hk
    cases q : m.find? fun p => decide (p.1 = k) with
    | none => exact absurd (decide_eq_true e1) (List.find?_eq_none.mp q p hp)
    | some r => rw [q] at e; exact congrArg some e
  show lcGo _ _ _ _ ((m.map mpE).map (·.1)) [] _
  rw [ek]
  refine lc_fm lotD (fun k => if decide (val m k ≠ 0) = true then some (W2.prD (k, val m k)) else none) _ (fun k hk' R hR => ?_) (le_line (by rw [List.length_map]; exact hl)) ?_
  · refine get k hk' _ ⟨rfl, ?_⟩
    show (if (!(val m k == 0)) = true then _ else R none)
    by_cases c : val m k = 0
    · rw [if_neg (by simp [c])]
      rw [if_neg (by simp [c])] at hR
      exact hR
    · rw [if_pos (by simp [c])]
      rw [if_pos (by simp [c])] at hR
      exact get k hk' _ ⟨(show 2 ≤ sizeLine by decide), hR⟩
  · have e2 : (m.map (·.1)).filterMap (fun k => if decide (val m k ≠ 0) = true then some (W2.prD (k, val m k)) else none) = (nz m).map W2.prD := by
      rw [← nz_keys (m := m) (r := m) fun p hp => val_mem hk hp]
      generalize m.map (·.1) = l
      induction l with
      | nil => rfl
      | cons x r ih =>
        rw [List.filterMap_cons, List.filterMap_cons]
        by_cases c : val m x = 0
        · rw [if_neg (by simp [c]), if_neg (fun z => z c)]; exact ih
        · rw [if_pos (by simp [c]), if_pos c, List.map_cons, ih]
    rw [e2]
    refine ⟨layAll_map lay_pr _, sortOk_pr _, ?_⟩
    rw [sortD_pr]
    exact q
theorem lteller : Teller wf_ltold := fun m P hk hl hp => ⟨m, rfl, hk, hl, hp⟩
theorem hw_lsum (ds : List W2.D) (Q : W2.D → Prop) (_ : ds.length = 3) (h : wf_psum ds Q) : wb__law_sum wf_ltold { nx := fun _ => Q .none, rt := Q } (startE ["one", "other", "times", "found", "powers", "number"] (ds.map .fz)) := psum_body lteller ds Q h
theorem hw_ltimes (ds : List W2.D) (Q : W2.D → Prop) (_ : ds.length = 2) (h : wf_mul ds Q) : wb__law_times wf_ltold { nx := fun _ => Q .none, rt := Q } (startE ["one", "other", "found", "powers", "number", "late", "more", "both", "a", "b"] (ds.map .fz)) := by
  obtain ⟨s, t, rfl, hm, q⟩ := h
  exact mul_body (C := wCall gTuple (wCons (wLc (wZip false (wCons (wN 3) (wCons (wN 5) (wNil)))) (wGt 2 (wGcons (wGn 8) (wGcons (wGn 9) (wGnil)))) (wYes) (w2 gAdd (wB 8) (wB 9)) [8, 9]) (wNil))) (tl := [.un, .un])
    (fun s t m a b u v e P h1 h2 h3 => ⟨(fun z => nomatch z), zip_go h2 (fun p R hR => ⟨rfl, hR⟩) h3⟩) lteller s t Q hm q
/-! ### drawn -/
theorem nrm_put {m : List LI} (hk : Keys m) (k : List Int) (v : Int) : nrm (put m k v) ≤ nrm m + v.natAbs := by
  unfold put
  by_cases c : (m.any fun p => decide (p.1 = k)) = true
  · rw [if_pos c]
    have := nrm_over k v m hk (any_key.mp c)
    omega
  · rw [if_neg c, nrm_append, nrm_cons, nrm_nil]
    exact Nat.le_refl _
theorem sum_set : ∀ (l : List Int) (i : Nat), i < l.length → (l.set i (l.getD i 0 + 1)).sum = l.sum + 1
  | [], i, h => by simp at h
  | x :: l, 0, _ => by show (x + 1) + l.sum = x + l.sum + 1; omega
  | x :: l, i + 1, h => by
    have ih := sum_set l i (by simpa using h)
    show x + (l.set i (l.getD i 0 + 1)).sum = x + l.sum + 1
    rw [ih]; omega
theorem getD_nn {l : List Int} (h : ∀ x ∈ l, 0 ≤ x) (i : Nat) : 0 ≤ l.getD i 0 := by
  rw [List.getD_eq_getElem?_getD]
  cases e : l[i]? with
  | none => exact Int.le_refl _
  | some x => exact h x (List.mem_of_getElem? e)
theorem rep0 (n : Nat) : (List.replicate n [PyData.int 0]).flatten = (List.replicate n (0 : Int)).map PyData.int := by
  induction n with
  | zero => rfl
  | succ n ih => rw [List.replicate_succ, List.flatten_cons, ih, List.replicate_succ]; rfl
def wf_poly : WF := fun ds Q => ∃ n most far : Nat, ds = [.int n, .int most, .int far] ∧ 1 ≤ n ∧ n ≤ 100 ∧ most ≤ 100 ∧ far ≤ 100000 ∧ ∀ s, PP (n - 1) most s → s.length ≤ 5 → nrm s ≤ 5 * far → Q (rsD s)
theorem hw_poly (ds : List W2.D) (Q : W2.D → Prop) (_ : ds.length = 3) (h : wf_poly ds Q) : wb__law_poly wf_ltold { nx := fun _ => Q .none, rt := Q } (startE ["source", "n", "most", "far", "found", "lap", "powers", "step", "k"] (.src :: ds.map .fz)) := by
  obtain ⟨n, most, far, rfl, h1, hn, hm, hf, q⟩ := h
  refine ⟨rfl, (show (6 : Int) < 1073741824 by decide), fun r r0 r1 => ⟨⟨by omega, by omega⟩, ?_⟩⟩
  show forGo _ _ _ (rangeD 0 r.toNat) _
  rw [rangeD0]
  refine for_ix _ (fun i η => ∃ m, Keys m ∧ (∀ p ∈ m, Pk (n - 1) most p.1) ∧ nrm m ≤ far * i ∧ m.length ≤ i ∧ ∃ a b c d, η = [.src, .fz (.int n), .fz (.int most), .fz (.int far), .ow (mpD m), a, b, c, d]) (fun i hi η hI Kc hK => ?_) (fun η hI => ?_) ⟨[], keys_nil, (fun _ h => nomatch h), Nat.zero_le _, Nat.le_refl _, .un, .un, .un, .un, rfl⟩
  · obtain ⟨m, km, hks, hnr, hl, a, b, c, d, rfl⟩ := hI
    refine ⟨(show 1 ≤ sizeLine by decide), (show 1 ≤ 1000 by decide), by omega, by omega, ?_⟩
    have en : ((n : Int) - 1).toNat = n - 1 := by omega
    rw [en, rep0]
    have fin : ∀ (l : List Int) (c d : Slot), Pk (n - 1) most l → wStore 4 (wCall gTuple (wCons (wB 6) (wNil))) (w2 gSubI (wFnS 0 1 wfPick (wCons (w2 gAdd (w2 gMulI (wC (.int 2)) (wB 3)) (wC (.int 1))) (wNil))) (wB 3)) { nx := Kc, rt := Q, bk := fun _ => False, ct := Kc } [.src, .fz (.int n), .fz (.int most), .fz (.int far), .ow (mpD m), .fz (.int (i : Int)), .ow (.list (l.map .int)), c, d] := fun l c d pl => by
      refine ⟨small_mul (small_of (B := 2) (by decide) (by decide)) (small_of (B := 100000) (by omega) (by decide)), rfl, by omega, fun v v0 v1 => ?_⟩
      refine ⟨keyOk_lot l, kindOk_mp m l, by rw [List.length_map, sizeLine_eq]; omega, ?_⟩
      show Kc [.src, .fz (.int n), .fz (.int most), .fz (.int far), .ow (.dict (dPut (m.map mpE) (lotD l) (.int (v - far)))), .fz (.int (i : Int)), .ow (.list (l.map .int)), c, d]
      rw [dPut_mp]
      refine hK _ ⟨put m l (v - far), put_keys km, fun p hp => ?_, ?_, ?_, _, _, _, _, rfl⟩
      · rcases put_mem hp with e | e
        · rw [e]; exact pl
        · exact hks p e
      · have h2 := nrm_put km l (v - far)
        have : (v - far).natAbs ≤ far := by omega
        rw [Nat.mul_add, Nat.mul_one]
        omega
      · have := put_length m l (v - far)
        omega
    have zero : Pk (n - 1) most (List.replicate (n - 1) 0) := ⟨List.length_replicate, fun x hx => by rw [(List.mem_replicate.mp hx).2]; exact Int.le_refl _, by
      have : (List.replicate (n - 1) (0 : Int)).sum = 0 := by
        generalize n - 1 = j
        induction j with
        | zero => rfl
        | succ j ih => rw [List.replicate_succ, List.sum_cons, ih]; rfl
      omega⟩
    have zs : (List.replicate (n - 1) (0 : Int)).sum = 0 := by
      generalize n - 1 = j
      induction j with
      | zero => rfl
      | succ j ih => rw [List.replicate_succ, List.sum_cons, ih]; rfl
    show (if decide ((1 : Int) < n) = true then _ else _)
    by_cases c1 : (1 : Int) < n
    · refine ifT (decide_eq_true c1) ?_
      refine ⟨rfl, by omega, fun u u0 u1 => ⟨⟨by omega, by omega⟩, ?_⟩⟩
      show forGo _ _ _ (rangeD 0 u.toNat) _
      rw [rangeD0]
      refine for_ix _ (fun j η => ∃ l : List Int, l.length = n - 1 ∧ (∀ x ∈ l, 0 ≤ x) ∧ l.sum = j ∧ ∃ c d, η = [.src, .fz (.int n), .fz (.int most), .fz (.int far), .ow (mpD m), .fz (.int (i : Int)), .ow (.list (l.map .int)), c, d]) (fun j hj η hI Kc2 hK2 => ?_) (fun η hI => ?_) ⟨_, List.length_replicate, zero.nn, zs, _, _, rfl⟩
      · obtain ⟨l, ll, lnn, ls, c, d, rfl⟩ := hI
        refine ⟨rfl, by omega, fun w w0 w1 => ?_⟩
        have hw : w.toNat < l.length := by omega
        refine ⟨_, at_row (r := l) w0 (by omega), ?_⟩
        refine ⟨w.toNat, ?_, ?_⟩
        · unfold ixN
          rw [List.length_map, if_pos w0, if_pos (by omega)]
        · have e : (l.map PyData.int).set w.toNat (.int (at_ l w + 1)) = (l.set w.toNat (l.getD w.toNat 0 + 1)).map .int := by
            rw [List.map_set]; rfl
          show Kc2 [.src, .fz (.int n), .fz (.int most), .fz (.int far), .ow (mpD m), .fz (.int (i : Int)), .ow (.list ((l.map PyData.int).set w.toNat (.int (at_ l w + 1)))), _, _]
          rw [e]
          refine hK2 _ ⟨_, by rw [List.length_set]; exact ll, fun x hx => ?_, ?_, _, _, rfl⟩
          · rcases List.mem_or_eq_of_mem_set hx with e | e
            · exact lnn x e
            · have := getD_nn lnn w.toNat; omega
          · rw [sum_set l _ hw, ls]; omega
      · obtain ⟨l, ll, lnn, ls, c, d, rfl⟩ := hI
        exact fin l c d ⟨ll, lnn, by omega⟩
    · refine ifF (decide_eq_false c1) ?_
      refine ⟨⟨by omega, by omega⟩, ?_⟩
      show forGo _ _ _ [] _
      exact fin (List.replicate (n - 1) 0) c d zero
  · obtain ⟨m, km, hks, hnr, hl, a, b, c, d, rfl⟩ := hI
    have hr : r.toNat ≤ 5 := by omega
    refine ⟨rfl, m, rfl, km, by omega, q _ ⟨nf_told km, fun p hp => hks p (mem_told.mp hp).1⟩ ?_ ?_⟩
    · have h2 := (told_perm m).length_eq
      have h3 : (nz m).length ≤ m.length := List.length_filter_le _ _
      omega
    · have h2 := nrm_told m
      have h3 := Nat.mul_le_mul_left far hr
      rw [Nat.mul_comm far 5] at h3
      omega
end Po

set_option Elab.async false
set_option linter.all false
set_option maxRecDepth 100000
/-! W3F: what is a polynomial, of anything. -/
namespace Po
open PySem PySem.Spec PyProof.Rows L2 W2 PySem.W Sm

def wb_is_polynomial : WS :=
  wSeq (wIf (wNotT (wTr (wIsi "tuple" (wB 1)))) (wRet (wC (.bool false))) (wNext)) (wSeq (wFor (wItems (wN 1)) (wGn 2) (wSeq (wIf (wOrT (wNotT (wTr (wIsi "tuple" (wB 2)))) (wOrT (wTrB (w2 gNe (wCall gLenX (wCons (wB 2) (wNil))) (wC (.int 2)))) (wOrT (wNotT (wTr (wIsi "tuple" (w2 gIxA (wB 2) (wC (.int 0)))))) (wTrB (w2 gNe (wCall gLenX (wCons (w2 gIxA (wB 2) (wC (.int 0))) (wNil))) (w2 gSubI (wB 0) (wC (.int 1)))))))) (wRet (wC (.bool false))) (wNext)) (wSeq (wIf (wNotT (wTr (wCall gAll (wCons (wLc (wItems (wTup (wStar (w2 gIxA (wB 2) (wC (.int 0))) (wCons (w2 gIxA (wB 2) (wC (.int 1))) (wNil))))) (wGn 3) (wYes) (wAndV (wIsi "int" (wB 3)) (w1 gNotB (wIsi "bool" (wB 3)))) [3]) (wNil))))) (wRet (wC (.bool false))) (wNext)) (wIf (wOrT (wTrB (w2 gEq (w2 gIxA (wB 2) (wC (.int 1))) (wC (.int 0)))) (wTrB (w2 gNe (wLc (wItems (w2 gIxA (wB 2) (wC (.int 0)))) (wGn 4) (wTrB (w2 gLtI (wB 4) (wC (.int 0)))) (wN 4) [4]) (wLst (wNil))))) (wRet (wC (.bool false))) (wNext))))) (wRet (w2 gEq (wLc (wRng2 (wC (.int 1)) (wCall gLenX (wCons (wB 1) (wNil)))) (wGn 5) (wTrB (w2 gLeA (w2 gIxA (w2 gIxA (wB 1) (wN 5)) (wC (.int 0))) (w2 gIxA (w2 gIxA (wB 1) (w2 gSubI (wB 5) (wC (.int 1)))) (wC (.int 0))))) (wN 5) [5]) (wLst (wNil)))))
def intOf : W2.D → Int
  | .int i => i
  | _ => 0
def keyOf : W2.D → List Int
  | .tuple (.tuple ks :: _) => ks.map intOf
  | _ => []
def keyAt (ds : List W2.D) (j : Nat) : List Int := keyOf (ds.getD j .none)
def ascK (ds : List W2.D) : Bool := (adjB (fun j => leTI (keyAt ds (j + 1)) (keyAt ds j)) (ds.length - 1)).isEmpty
def nnB : W2.D → Bool
  | .int i => !decide (i < 0)
  | _ => true
def okP (n : Int) : W2.D → Bool
  | .tuple [.tuple ks, v] => ((ks.length : Int) == n - 1) && ((ks.all isIntB && isIntB v) && ((!PyData.eqv v (.int 0)) && ks.all nnB))
  | _ => false
def isPoly (n : Int) : W2.D → Bool
  | .tuple xs => xs.all (okP n) && ascK xs
  | _ => false
structure Szd (d : W2.D) : Prop where
  top : ∀ xs, d = .tuple xs → xs.length ≤ 16000000
  mid : ∀ xs, d = .tuple xs → ∀ x ∈ xs, ∀ ys, x = .tuple ys → ys.length ≤ 16000000
  low : ∀ xs, d = .tuple xs → ∀ x ∈ xs, ∀ ys, x = .tuple ys → ∀ y ∈ ys, ∀ zs, y = .tuple zs → zs.length ≤ 16000000
theorem szd_of {k B : Nat} {d : W2.D} (h : Fn k B d) (hB : B ≤ 16000000) : Szd d where
  top := fun xs e => by subst e; have := h.count; omega
  mid := fun xs e x hx ys e' => by subst e; have h1 := h.mem hx; subst e'; have := h1.count; omega
  low := fun xs e x hx ys e' y hy zs e'' => by subst e; have h1 := h.mem hx; subst e'; have h2 := h1.mem hy; subst e''; have := h2.count; omega
theorem isTup_not {d : W2.D} (h : isTupB d = true) : ∃ xs, d = .tuple xs := by cases d <;> first | exact ⟨_, rfl⟩ | (cases h)
theorem isInt_is {d : W2.D} (h : isIntB d = true) : d = .int (intOf d) := by cases d <;> first | rfl | (cases h)
theorem at_any {ds : List W2.D} {j : Nat} (h : j < ds.length) : L2.atI ds (j : Int) = some (ds.getD j .none) := by
  unfold L2.atI ixN
  rw [if_pos (by omega), if_pos (by omega)]
  show ds[(j : Int).toNat]? = _
  rw [Int.toNat_natCast, List.getElem?_eq_getElem h, List.getD_eq_getElem?_getD, List.getElem?_eq_getElem h]
  rfl
theorem getD_mem {ds : List W2.D} {j : Nat} (h : j < ds.length) : ds.getD j .none ∈ ds := by
  rw [List.getD_eq_getElem?_getD, List.getElem?_eq_getElem h]
  exact List.getElem_mem _
theorem bools_map (f : W2.D → Bool) : ∀ ds : List W2.D, boolsOf (ds.map fun d => .bool (f d)) = some (ds.map f)
  | [] => rfl
  | x :: r => by
    show (boolsOf (r.map fun d => .bool (f d))).map (f x :: ·) = _
    rw [bools_map f r]
    rfl
theorem okP_form {n : Int} {x : W2.D} (h : okP n x = true) : ∃ (ks : List Int) (v : Int), x = .tuple [.tuple (ks.map .int), .int v] ∧ ((ks.length : Nat) : Int) = n - 1 ∧ v ≠ 0 ∧ ∀ k ∈ ks, 0 ≤ k := by
  unfold okP at h
  split at h
  · rename_i ks v
    rw [Bool.and_eq_true, Bool.and_eq_true, Bool.and_eq_true, Bool.and_eq_true] at h
    obtain ⟨h1, ⟨h2, h3⟩, h4, h5⟩ := h
    obtain ⟨w, rfl⟩ : ∃ w, v = .int w := ⟨_, isInt_is h3⟩
    have e : ks = (ks.map intOf).map PyData.int := by
      rw [List.map_map]
      have : ∀ x ∈ ks, (PyData.int ∘ intOf) x = x := fun x hx => (isInt_is (List.all_eq_true.mp h2 x hx)).symm
      rw [List.map_congr_left this, List.map_id']
    refine ⟨ks.map intOf, w, by rw [← e], by rw [List.length_map]; exact beq_iff_eq.mp h1, fun z => ?_, fun k hk => ?_⟩
    · subst z
      exact absurd h4 (by decide)
    · obtain ⟨x, hx, rfl⟩ := List.mem_map.mp hk
      have h6 := List.all_eq_true.mp h5 x hx
      rw [isInt_is (List.all_eq_true.mp h2 x hx)] at h6
      have h7 : (!decide (intOf x < 0)) = true := h6
      rw [Bool.not_eq_true', decide_eq_false_iff_not] at h7
      omega
  · cases h
theorem len_ne2 {n : Nat} (h : n ≠ 2) : (!(PyData.eqv (.int (n : Int)) (.int 2))) = true := by
  show (!((n : Int) == 2)) = true
  rw [Bool.not_eq_true', beq_eq_false_iff_ne]
  omega
theorem okP_long {n : Int} {a b c : W2.D} {r : List W2.D} : okP n (.tuple (a :: b :: c :: r)) = false := by
  unfold okP
  split
  · rename_i h; cases h
  · rfl
theorem okP_not {n : Int} {a b : W2.D} (h : isTupB a = false) : okP n (.tuple [a, b]) = false := by cases a <;> first | rfl | (cases h)
theorem okP_two {n : Int} {ks : List W2.D} {v : W2.D} : okP n (.tuple [.tuple ks, v]) = (((ks.length : Int) == n - 1) && ((ks.all isIntB && isIntB v) && ((!PyData.eqv v (.int 0)) && ks.all nnB))) := rfl
theorem asc_go {ds : List W2.D} {n : Int} {a b c d : Slot} {Q : W2.D → Prop} (hp : ds.all (okP n) = true) (hl : ds.length ≤ 16000000) (q : Q (.bool (ascK ds))) :
    w2 gEq (wLc (wRng2 (wC (.int 1)) (wCall gLenX (wCons (wB 1) (wNil)))) (wGn 5) (wTrB (w2 gLeA (w2 gIxA (w2 gIxA (wB 1) (wN 5)) (wC (.int 0))) (w2 gIxA (w2 gIxA (wB 1) (w2 gSubI (wB 5) (wC (.int 1)))) (wC (.int 0))))) (wN 5) [5]) (wLst (wNil)) [a, .fz (.tuple ds), b, c, d, .un] Q := by
  refine ⟨⟨by omega, by omega, by omega, by omega⟩, ?_⟩
  show lcGo _ _ _ _ (rangeD 1 ((ds.length : Int) - 1).toNat) [] _
  have e : ((ds.length : Int) - 1).toNat = ds.length - 1 := by omega
  rw [e]
  have get : ∀ j, j < ds.length → ∃ i, ds.getD j .none = .tuple [.tuple ((keyAt ds j).map PyData.int), .int i] := fun j hj => by
    obtain ⟨ks, v, e, _⟩ := okP_form (List.all_eq_true.mp hp _ (getD_mem (ds := ds) hj))
    refine ⟨v, ?_⟩
    unfold keyAt
    rw [e]
    show _ = PyData.tuple [.tuple (((ks.map PyData.int).map intOf).map PyData.int), .int v]
    rw [List.map_map (f := PyData.int)]
    have : (intOf ∘ PyData.int) = id := rfl
    rw [this, List.map_id]
  refine adj_go (fun j => leTI (keyAt ds (j + 1)) (keyAt ds j)) (by omega) (fun j hj R hR => ?_) ?_
  · obtain ⟨i1, e1⟩ := get (j + 1) (by omega)
    obtain ⟨i2, e2⟩ := get j (by omega)
    have g1 : L2.atI ds (1 + (j : Int)) = some (.tuple [.tuple ((keyAt ds (j + 1)).map PyData.int), .int i1]) := by
      rw [show (1 + (j : Int)) = ((j + 1 : Nat) : Int) by omega, at_any (by omega), e1]
    have g2 : L2.atI ds (1 + (j : Int) - 1) = some (.tuple [.tuple ((keyAt ds j).map PyData.int), .int i2]) := by
      rw [show (1 + (j : Int)) - 1 = ((j : Nat) : Int) by omega, at_any (by omega), e2]
    exact ⟨_, g1, _, rfl, _, g2, _, rfl, _, _, rfl, rfl, optR hR⟩
  · refine ⟨Nat.zero_le _, eqOk_nil _, ?_⟩
    rw [eqv_nil]
    exact q
def wf_is : WF := fun ds Q => ∃ (n : Int) (d : W2.D), ds = [.int n, d] ∧ Szd d ∧ Q (.bool (isPoly n d))
theorem hw_is (ds : List W2.D) (Q : W2.D → Prop) (_ : ds.length = 2) (h : wf_is ds Q) : wb_is_polynomial { nx := fun _ => Q .none, rt := Q } (startE ["n", "value", "pair", "one", "power", "k"] (ds.map .fz)) := by
  obtain ⟨n, d, rfl, hd, q⟩ := h
  refine ⟨_, rfl, ?_⟩
  show (if (!isiT d "tuple") = true then _ else _)
  rw [isi_tuple]
  cases e : isTupB d with
  | false =>
    refine ifT rfl ?_
    have : isPoly n d = false := by cases d <;> first | rfl | (cases e)
    rw [this] at q
    exact q
  | true =>
    obtain ⟨xs, rfl⟩ := isTup_not e
    refine ifF rfl ?_
    show forGo _ _ _ xs [.fz (.int n), .fz (.tuple xs), .un, .un, .un, .un]
    have q' : Q (.bool (xs.all (okP n) && ascK xs)) := q
    refine for_all (okP n) (.bool false) (fun η => ∃ a, η = [.fz (.int n), .fz (.tuple xs), a, .un, .un, .un]) xs _ ⟨_, rfl⟩ (fun x hx η hI Kc hK hF => ?_) (fun h η' hI => ?_) (fun h => ?_)
    · obtain ⟨a, rfl⟩ := hI
      refine ⟨_, rfl, ?_⟩
      show (if (!isiT x "tuple") = true then _ else _)
      rw [isi_tuple]
      cases e : isTupB x with
      | false => exact ifT rfl (ifT rfl (hF (by cases x <;> first | rfl | (cases e))))
      | true =>
        obtain ⟨ys, rfl⟩ := isTup_not e
        refine ifF rfl ⟨eqOk_of rfl rfl, ?_⟩
        by_cases hy : ys.length = 2
        · match ys, hy with
          | [y, z], _ =>
            refine ifF rfl ?_
            refine ⟨y, rfl, _, rfl, ?_⟩
            show (if (!isiT y "tuple") = true then _ else _)
            rw [isi_tuple]
            cases e1 : isTupB y with
            | false => exact ifT rfl (ifT rfl (hF (okP_not e1)))
            | true =>
              obtain ⟨ks, rfl⟩ := isTup_not e1
              have hp := okP_two (n := n) (ks := ks) (v := z)
              have kl := hd.low xs rfl _ hx _ rfl _ List.mem_cons_self _ rfl
              refine ifF rfl ⟨_, rfl, eqOk_of rfl rfl, ?_⟩
              show (if (!((ks.length : Int) == n - 1)) = true then _ else _)
              cases e2 : ((ks.length : Int) == n - 1) with
              | false => rw [e2] at hp; exact ifT rfl (hF hp)
              | true =>
                rw [e2] at hp
                refine ifF rfl ?_
                refine ⟨.tuple ks, rfl, z, rfl, ?_, ?_⟩
                · rw [List.length_append]; show ks.length + 1 ≤ _; rw [sizeLine_eq]; omega
                show lcGo _ _ _ _ (ks ++ [z]) [] _
                refine lc_all (fun x => some (.bool (isIntB x))) (ks ++ [z]) (fun x hx R hR => num_go (d := x) (Q := fun y => R (some y)) hR) (by rw [List.length_append]; show ks.length + 1 ≤ _; rw [sizeLine_eq]; omega) ?_
                rw [fm_map]
                refine ⟨_, bools_map _ _, _, rfl, ?_⟩
                have e3 : ((ks ++ [z]).map isIntB).all id = (ks.all isIntB && isIntB z) := by
                  rw [List.all_map, List.all_append, List.all_cons, List.all_nil, Bool.and_true]; rfl
                show (if (!((ks ++ [z]).map isIntB).all id) = true then _ else _)
                rw [e3]
                cases e4 : (ks.all isIntB && isIntB z) with
                | false => rw [e4] at hp; exact ifT rfl (hF hp)
                | true =>
                  rw [e4] at hp
                  rw [Bool.and_eq_true] at e4
                  obtain ⟨w, rfl⟩ : ∃ w, z = .int w := ⟨_, isInt_is e4.2⟩
                  refine ifF rfl ⟨_, rfl, eqOk_of rfl rfl, ?_⟩
                  show (if PyData.eqv (.int w) (.int 0) = true then _ else _)
                  cases e5 : PyData.eqv (.int w) (.int 0) with
                  | true => rw [e5] at hp; exact ifT rfl (hF hp)
                  | false =>
                    rw [e5] at hp
                    refine ifF rfl ?_
                    refine ⟨.tuple ks, rfl, ?_⟩
                    show lcGo _ _ _ _ ks [] _
                    refine lc_all (fun x => if (!nnB x) = true then some x else none) ks (fun x hx R hR => ?_) (le_line16 kl) ?_
                    · have hi := isInt_is (List.all_eq_true.mp e4.1 x hx)
                      rw [hi] at hR ⊢
                      have hR' : R (if decide (intOf x < 0) = true then some (.int (intOf x)) else none) := by
                        have e6 : (!nnB (.int (intOf x))) = decide (intOf x < 0) := by show (!!decide (intOf x < 0)) = _; rw [Bool.not_not]
                        rw [e6] at hR
                        exact hR
                      exact optR hR'
                    · refine ⟨Nat.zero_le _, eqOk_nil _, ?_⟩
                      show (if (!PyData.eqv (.list _) (.list [])) = true then _ else _)
                      rw [eqv_nil, empty_all]
                      cases e6 : ks.all nnB with
                      | false => rw [e6] at hp; exact ifT rfl (hF hp)
                      | true => rw [e6] at hp; exact ifF rfl (hK hp _ ⟨_, rfl⟩)
        · refine ifT (len_ne2 hy) (ifT rfl (hF ?_))
          match ys, hy with
          | [], _ => rfl
          | [a], _ => cases a <;> rfl
          | [a, b], h => exact absurd rfl h
          | a :: b :: c :: r, _ => exact okP_long
    · obtain ⟨a, rfl⟩ := hI
      rw [h] at q'
      exact asc_go h (hd.top xs rfl) q'
    · rw [h] at q'
      exact q'
/-- ascending keys: the law's way to say it -/
theorem ascK_iff {n : Int} {xs : List W2.D} (hp : xs.all (okP n) = true) : ascK xs = decide (xs.map keyOf = (uk (xs.map keyOf)).mergeSort leL) := by
  have hl : ∀ k ∈ xs.map keyOf, k.length = (n - 1).toNat := fun k hk => by
    obtain ⟨x, hx, rfl⟩ := List.mem_map.mp hk
    obtain ⟨ks, v, rfl, h1, _⟩ := okP_form (List.all_eq_true.mp hp x hx)
    show ((ks.map PyData.int).map intOf).length = _
    rw [List.length_map, List.length_map]
    omega
  have e1 : ascK xs = true ↔ adj (xs.map keyOf) := by
    unfold ascK adjB adj
    rw [List.isEmpty_iff, filterMap_nil]
    have gd : ∀ j, j < xs.length → (xs.map keyOf).getD j [] = keyAt xs j := fun j hj => by
      unfold keyAt
      rw [List.getD_eq_getElem?_getD, List.getD_eq_getElem?_getD, List.getElem?_map, List.getElem?_eq_getElem hj]
      rfl
    constructor
    · intro h j hj
      rw [List.length_map] at hj
      have : (if leTI (keyAt xs (j + 1)) (keyAt xs j) = true then some (PyData.int (1 + (j : Int))) else none) = none := h j (List.mem_range.mpr (by omega))
      rw [gd _ hj, gd _ (by omega)]
      cases e : leTI (keyAt xs (j + 1)) (keyAt xs j) with
      | false => rfl
      | true => rw [e] at this; cases this
    · intro h j hj
      have hj' := List.mem_range.mp hj
      have := h j (by rw [List.length_map]; omega)
      rw [gd _ (by omega), gd _ (by omega)] at this
      show (if leTI (keyAt xs (j + 1)) (keyAt xs j) = true then some (PyData.int (1 + (j : Int))) else none) = none
      rw [this]
      rfl
  have e2 := e1.trans ((adj_pair hl).trans (sorted_iff hl).symm)
  cases e : ascK xs with
  | true => exact (decide_eq_true (e2.mp e)).symm
  | false => exact (decide_eq_false fun z => by rw [e2.mpr z] at e; cases e).symm
end Po

set_option Elab.async false
set_option linter.all false
set_option maxRecDepth 100000
set_option autoImplicit false
/-! W3G: polynomials shown, how great worths are; small tools. -/
namespace Po
open PySem PySem.Spec PyProof.Rows L2 W2 PySem.W Sm

theorem sing_fn {k B : Nat} {d : W2.D} (h : Fn k B d) : Fn (k + 1) (B + 5) (.tuple [d]) := (Fn.tup (w := 1) (ds := [d]) (Nat.le_refl 1) fun x hx => by rw [List.mem_singleton] at hx; rw [hx]; exact h).mono (Nat.le_refl _) (by omega)
theorem two_fn {k B : Nat} {d e : W2.D} (h : Fn k B d) (h' : Fn k B e) : Fn (k + 1) (2 * (B + 2) + 3) (.tuple [d, e]) := Fn.tup (w := 2) (ds := [d, e]) (Nat.le_refl 2) fun x hx => by
  simp only [List.mem_cons, List.not_mem_nil, or_false] at hx
  rcases hx with rfl | rfl
  · exact h
  · exact h'
theorem nil_fn {k : Nat} : Fn (k + 1) 5 (.tuple []) := (Fn.tup (k := k) (B := 0) (w := 0) (ds := []) (Nat.le_refl 0) fun x hx => nomatch hx).mono (Nat.le_refl _) (by decide)
theorem small_fn {k : Nat} {i : Int} (h : i.natAbs ≤ 20) : Fn k 5 (.int i) := (Fn.int (k := 2) (by decide) (by decide) (by omega)).mono (Nat.zero_le _) (by decide)
theorem mem_sum : ∀ {l : List Int}, (∀ x ∈ l, 0 ≤ x) → ∀ x ∈ l, x ≤ l.sum
  | y :: l, h, x, hx => by
    rw [List.sum_cons]
    have h1 := sum_nn l fun z hz => h z (List.mem_cons_of_mem _ hz)
    rcases List.mem_cons.mp hx with e | e
    · subst e; omega
    · have h2 := mem_sum (fun z hz => h z (List.mem_cons_of_mem _ hz)) x e
      have := h y List.mem_cons_self
      omega
theorem Pk.fn {m d : Nat} {k : List Int} (h : Pk m d k) (hm : m ≤ 8) (hd : d ≤ 90) : Fn 1 43 (lotD k) := by
  refine (Fn.tup (k := 0) (B := 3) (w := 8) (by rw [List.length_map, h.len]; exact hm) fun x hx => ?_).mono (by decide) (by decide)
  obtain ⟨r, hr, rfl⟩ := List.mem_map.mp hx
  have h1 := h.nn r hr
  have h2 := mem_sum h.nn r hr
  have h3 := h.deg
  exact Fn.int (k := 2) (by decide) (by decide) (by omega)
theorem PP.pr_fn {m d : Nat} {s : List LI} (h : PP m d s) (hm : m ≤ 8) (hd : d ≤ 90) (hb : nrm s < 10 ^ 40) {p : LI} (hp : p ∈ s) : Fn 2 93 (W2.prD p) := by
  refine (two_fn (k := 1) (B := 43) ((h.pk p hp).fn hm hd) ((Fn.int (k := 40) (by decide) (by decide) (Nat.lt_of_le_of_lt (nrm_mem hp) hb)).mono (by decide) (by decide))).mono (by decide) (by decide)
theorem PP.fn {m d w : Nat} {s : List LI} (h : PP m d s) (hm : m ≤ 8) (hd : d ≤ 90) (hb : nrm s < 10 ^ 40) (hl : s.length ≤ w) : Fn 3 (w * 95 + 3) (rsD s) := by
  refine (Fn.tup (k := 2) (B := 93) (w := w) (by rw [List.length_map]; exact hl) fun x hx => ?_).mono (by decide) (by omega)
  obtain ⟨p, hp, rfl⟩ := List.mem_map.mp hx
  exact h.pr_fn hm hd hb hp
theorem PP.pl {m d : Nat} {s : List LI} (h : PP m d s) (hm : m ≤ 8) (hd : d ≤ 90) (hb : nrm s < 10 ^ 30) (hl : s.length ≤ 30) : Pl 3 (rsD s) := by
  refine .inr ⟨s.map W2.prD, rfl, by rw [List.length_map]; exact hl, fun x hx => ?_⟩
  obtain ⟨p, hp, rfl⟩ := List.mem_map.mp hx
  have hk := h.pk p hp
  refine .inr ⟨[lotD p.1, .int p.2], rfl, by show 2 ≤ 30; decide, fun y hy => ?_⟩
  simp only [List.mem_cons, List.not_mem_nil, or_false] at hy
  rcases hy with rfl | rfl
  · refine .inr ⟨p.1.map PyData.int, rfl, by rw [List.length_map, hk.len]; omega, fun z hz => ?_⟩
    obtain ⟨r, hr, rfl⟩ := List.mem_map.mp hz
    have h1 := hk.nn r hr
    have h2 := mem_sum hk.nn r hr
    have h3 := hk.deg
    exact ⟨r, rfl, Nat.lt_of_le_of_lt (show r.natAbs ≤ 90 by omega) (by decide)⟩
  · exact .inl ⟨p.2, rfl, Nat.lt_of_le_of_lt (nrm_mem hp) hb⟩
/-! how great -/
theorem mulq_bound : ∀ (l : List (Int × Int)) (a : Int), (∀ q ∈ l, q.1.natAbs ≤ 200) → (l.foldl mulq a).natAbs ≤ a.natAbs * 200 ^ (l.map fun q => q.2.toNat).sum
  | [], a, _ => by show a.natAbs ≤ a.natAbs * 200 ^ 0; omega
  | q :: l, a, h => by
    have ih := mulq_bound l (mulq a q) fun z hz => h z (List.mem_cons_of_mem _ hz)
    rw [List.foldl_cons, List.map_cons, List.sum_cons, Nat.pow_add, ← Nat.mul_assoc]
    refine Nat.le_trans ih (Nat.mul_le_mul_right _ ?_)
    unfold mulq
    rw [Int.natAbs_mul, Int.natAbs_pow]
    exact Nat.mul_le_mul_left _ (Nat.pow_le_pow_left (h q List.mem_cons_self) _)
theorem mono_bound {m d : Nat} {k hs : List Int} (hk : Pk m d k) (ht : HtOk m hs) : (mono (rises hs) k).natAbs ≤ 200 ^ d := by
  obtain ⟨rl, rb⟩ := ht.rise
  have h1 := mulq_bound (List.zip (rises hs) k) 1 fun q hq => rb q.1 (List.of_mem_zip (a := q.1) (b := q.2) hq).1
  have h2 := zip_sum (rises hs) k hk.nn
  have h3 := hk.deg
  refine Nat.le_trans h1 ?_
  show 1 * _ ≤ _
  rw [Nat.one_mul]
  exact Nat.pow_le_pow_right (by decide) (by omega)
theorem ev_bound {f : List Int → Int} {B : Nat} : ∀ {s : List LI}, (∀ p ∈ s, (f p.1).natAbs ≤ B) → (ev f s).natAbs ≤ nrm s * B
  | [], _ => Nat.zero_le _
  | p :: s, h => by
    have ih := ev_bound fun q hq => h q (List.mem_cons_of_mem _ hq)
    have h1 := h p List.mem_cons_self
    rw [ev_cons, nrm_cons, Nat.add_mul]
    have h2 : (p.2 * f p.1).natAbs ≤ p.2.natAbs * B := by rw [Int.natAbs_mul]; exact Nat.mul_le_mul_left _ h1
    have h3 := Int.natAbs_add_le (p.2 * f p.1) (ev f s)
    omega
theorem worth_bound {m d : Nat} {s : List LI} {hs : List Int} (h : PP m d s) (ht : HtOk m hs) : (worth s hs).natAbs ≤ nrm s * 200 ^ d := ev_bound fun p hp => mono_bound (h.pk p hp) ht
/-! drawn ints -/
theorem ints_of {P : Int → Prop} : ∀ {ys : List W2.D}, (∀ y ∈ ys, ∃ h : Int, y = .int h ∧ P h) → ∃ hs : List Int, ys = hs.map .int ∧ ∀ h ∈ hs, P h
  | [], _ => ⟨[], rfl, fun _ h => nomatch h⟩
  | y :: ys, h => by
    obtain ⟨i, rfl, hi⟩ := h y List.mem_cons_self
    obtain ⟨hs, rfl, hh⟩ := ints_of fun z hz => h z (List.mem_cons_of_mem _ hz)
    exact ⟨i :: hs, rfl, fun z hz => by
      rcases List.mem_cons.mp hz with e | e
      · subst e; exact hi
      · exact hh z e⟩
theorem rises_up (hs : List Int) (c : Int) (h : 0 < hs.length) : rises (hs.map fun x => x + c) = rises hs := by
  unfold rises
  rw [← List.map_drop, List.map_map]
  refine List.map_congr_left fun x _ => ?_
  have e : at_ (hs.map fun x => x + c) 0 = at_ hs 0 + c := by
    unfold at_
    show (hs.map fun x => x + c).getD 0 0 = hs.getD 0 0 + c
    rw [List.getD_eq_getElem?_getD, List.getD_eq_getElem?_getD, List.getElem?_map, List.getElem?_eq_getElem h]
    rfl
  show x + c - at_ (hs.map fun x => x + c) 0 = x - at_ hs 0
  rw [e]; omega
theorem pmul_len (s t : List LI) : (pmul s t).length ≤ s.length * t.length := by
  have h1 := (told_perm (s.foldl (mulOut pop t) [])).length_eq
  have h2 : (nz (s.foldl (mulOut pop t) [])).length ≤ (s.foldl (mulOut pop t) []).length := List.length_filter_le _ _
  have h3 := fold_len (mulOut_len (op := pop) t) s []
  rw [List.length_nil] at h3
  unfold pmul mulS
  omega
theorem psum_len (s t : List LI) (c : Int) : (psum s t c).length ≤ s.length + t.length := by
  have h1 := (told_perm (t.foldl (addIn c) s)).length_eq
  have h2 : (nz (t.foldl (addIn c) s)).length ≤ (t.foldl (addIn c) s).length := List.length_filter_le _ _
  have key : ∀ (l : List LI) (m : List LI), (l.foldl (addIn c) m).length ≤ m.length + l.length := by
    intro l
    induction l with
    | nil => intro m; exact Nat.le_refl _
    | cons x r ih =>
      intro m
      have h1 := ih (addIn c m x)
      have h2 := addIn_len c m x
      rw [List.foldl_cons, List.length_cons]
      omega
  have h3 := key t s
  unfold psum
  omega
theorem rs_ok (s t : List LI) : eqOk (rsD s) (rsD t) = true := eqOk_of (shaped_rs s) (shaped_rs t)
theorem rs_ne {s t : List LI} (e : s = t) : (!PyData.eqv (rsD s) (rsD t)) = false := by
  rw [eqv_rs, decide_eq_true e]; rfl
theorem val_small {B : Nat} {s : List LI} (h : nrm s ≤ B) (k : List Int) : (val s k).natAbs ≤ B := by
  by_cases c : val s k = 0
  · rw [c]; exact Nat.zero_le _
  · exact Nat.le_trans (nrm_mem (mem_val c)) h
theorem one_le : (1 : Nat) ≤ sizeLine := by decide
theorem two_le : (2 : Nat) ≤ sizeLine := by decide
theorem three_le : (3 : Nat) ≤ sizeLine := by decide
theorem int_ne {a b : Int} (e : a = b) : (!PyData.eqv (.int a) (.int b)) = false := by
  subst e
  show (!(a == a)) = false
  rw [beq_self_eq_true]; rfl
abbrev RT : W2.D → Prop := fun d => d = .bool true
end Po

set_option Elab.async false
set_option linter.all false
set_option maxRecDepth 100000
/-! W4A: lines of roads, their products; slopes along lots of crossings; cuts: walked for every law. -/
namespace Li
open PySem PySem.Spec PyProof.Rows L2 W2 PySem.W Sm Po

def wb_unit_powers : WS :=
  wRet (wCall gTuple (wCons (wLc (wRng2 (wC (.int 1)) (wB 0)) (wGn 2) (wYes) (wCall gInt (wCons (w2 gEq (wB 2) (wB 1)) (wNil))) [2]) (wNil)))
def wb_line_of (wf_unit_powers wf_told_polynomial : WF) : WS :=
  wSeq (wParN [2, 3] [4] (wMFz (w2 gIxA (w2 gIxA (wB 0) (wC (.int 1))) (wN 1)) (wMOw (wDNew) (wMNil)))) (wSeq (wFor (wItems (wTup (wCons (wTup (wCons (wN 3) (wCons (wC (.int 1)) (wNil)))) (wCons (wTup (wCons (wN 2) (wCons (w1 gNeg (wC (.int 1))) (wNil)))) (wNil))))) (wGt 2 (wGcons (wGn 5) (wGcons (wGn 6) (wGnil)))) (wIf (wTrB (w2 gNe (wB 5) (wC (.int 0)))) (wSeq (wAsg (wFn 2 wf_unit_powers (wCons (w2 gIxA (wB 0) (wC (.int 0))) (wCons (wN 5) (wNil)))) (wGn 7)) (wStore 4 (wN 7) (w2 gAdd (wGet2 (wB 4) (wN 7) (wC (.int 0))) (wB 6)))) (wNext))) (wFrz 4 (wRet (wFn 1 wf_told_polynomial (wCons (wN 4) (wNil))))))
def wb_product_of (wf_polynomial_product wf_line_of : WF) : WS :=
  wSeq (wAsg (wTup (wCons (wTup (wCons (w2 gRepT (wTup (wCons (wC (.int 0)) (wNil))) (w2 gSubI (w2 gIxA (wB 0) (wC (.int 0))) (wC (.int 1)))) (wCons (wC (.int 1)) (wNil)))) (wNil))) (wGn 2)) (wSeq (wFor (wItems (wN 1)) (wGn 3) (wAsg (wFn 2 wf_polynomial_product (wCons (wN 2) (wCons (wFn 2 wf_line_of (wCons (wN 0) (wCons (wN 3) (wNil)))) (wNil)))) (wGn 2))) (wRet (wN 2)))
def wb_slope_along (wf_told_polynomial : WF) : WS :=
  wSeq (wAsgL (wDNew) 2) (wSeq (wFor (wItems (wN 0)) (wGt 2 (wGcons (wGn 3) (wGcons (wGn 4) (wGnil)))) (wFor (wItems (wN 1)) (wGn 5) (wSeq (wAsg (w2 gIxA (wB 3) (w2 gSubI (wB 5) (wC (.int 1)))) (wGn 6)) (wIf (wTrB (w2 gGtI (wB 6) (wC (.int 0)))) (wSeq (wAsg (wTup (wStar (wSl (wB 3) (wNoPart) (wPart (w2 gSubI (wB 5) (wC (.int 1))))) (wCons (w2 gSubI (wB 6) (wC (.int 1))) (wStar (wSl (wB 3) (wPart (wB 5)) (wNoPart)) (wNil))))) (wGn 7)) (wStore 2 (wN 7) (w2 gAdd (wGet2 (wB 2) (wN 7) (wC (.int 0))) (w2 gMulI (wB 6) (wB 4))))) (wNext))))) (wFrz 2 (wRet (wFn 1 wf_told_polynomial (wCons (wN 2) (wNil))))))
def wb_slope_taken (wf_slope_along : WF) : WS :=
  wSeq (wFor (wRng1 (wB 2)) (wGn 3) (wAsg (wFn 2 wf_slope_along (wCons (wN 0) (wCons (wN 1) (wNil)))) (wGn 0))) (wRet (wN 0))
def wb_is_killed (wf_slope_taken : WF) : WS :=
  wRet (w2 gEq (wFn 3 wf_slope_taken (wCons (wN 0) (wCons (wN 1) (wCons (wN 2) (wNil))))) (wTup (wNil)))
def wb_cut_size : WS :=
  wRet (wCall gLenX (wCons (wLc (wItems (w2 gIxA (wB 0) (wC (.int 1)))) (wGt 2 (wGcons (wGn 2) (wGcons (wGn 3) (wGnil)))) (wTrB (w2 gNe (w2 (gInA false) (wN 2) (wB 1)) (w2 (gInA false) (wN 3) (wB 1)))) (wC (.int 1)) [2, 3]) (wNil)))
/-! ### units, lines -/
def unitP (m : Nat) (c : Int) : List Int := (List.range m).map fun i : Nat => if 1 + (i : Int) = c then 1 else 0
theorem unit_len (m : Nat) (c : Int) : (unitP m c).length = m := by unfold unitP; rw [List.length_map, List.length_range]
def wf_unit : WF := fun ds Q => ∃ (n : Nat) (c : Int), ds = [.int n, .int c] ∧ 1 ≤ n ∧ n ≤ 1000 ∧ Q (lotD (unitP (n - 1) c))
theorem hw_unit (ds : List W2.D) (Q : W2.D → Prop) (_ : ds.length = 2) (h : wf_unit ds Q) : wb_unit_powers { nx := fun _ => Q .none, rt := Q } (startE ["n", "crossing", "c"] (ds.map .fz)) := by
  obtain ⟨n, c, rfl, h1, hn, q⟩ := h
  refine ⟨⟨by omega, by omega, by omega, by omega⟩, ?_⟩
  show lcGo _ _ _ _ (rangeD 1 ((n : Int) - 1).toNat) [] _
  have e : ((n : Int) - 1).toNat = n - 1 := by omega
  rw [e]
  unfold rangeD
  refine lc_fm (fun k : Nat => PyData.int (1 + (k : Int))) (fun i : Nat => some (.int (if 1 + (i : Int) = c then 1 else 0))) (List.range (n - 1)) (fun i hi R hR => ?_) (le_line (by rw [List.length_range]; omega)) ?_
  · refine ⟨eqOk_of rfl rfl, ?_⟩
    show R (some (.int (if ((1 + (i : Int)) == c) = true then 1 else 0)))
    by_cases h : 1 + (i : Int) = c
    · rw [if_pos (beq_iff_eq.mpr h)]; rw [if_pos h] at hR; exact hR
    · rw [if_neg (by rw [beq_iff_eq]; exact h)]; rw [if_neg h] at hR; exact hR
  · rw [fm_map]
    have e2 : lotD (unitP (n - 1) c) = .tuple ((List.range (n - 1)).map fun i : Nat => PyData.int (if 1 + (i : Int) = c then 1 else 0)) := by unfold lotD unitP; rw [List.map_map]; rfl
    rw [e2] at q
    exact q
def lineIn (m : Nat) (M : List LI) (p : Int × Int) : List LI := if p.1 = 0 then M else put M (unitP m p.1) (val M (unitP m p.1) + p.2)
def lineS (m : Nat) (r : Int × Int) : List LI := W2.told ([(r.2, 1), (r.1, -1)].foldl (lineIn m) [])
theorem lineIn_keys {m : Nat} (M : List LI) (p : Int × Int) (h : Keys M) : Keys (lineIn m M p) := by
  unfold lineIn
  split
  · exact h
  · exact put_keys h
def road (roads : List (Int × Int)) (r : Int) : Int × Int := roads.getD r.toNat (0, 0)
theorem road_at {roads : List (Int × Int)} {r : Int} (h0 : 0 ≤ r) (h1 : r < roads.length) : L2.atI (roads.map rdD) r = some (rdD (road roads r)) := by
  have hi : r.toNat < roads.length := by omega
  unfold L2.atI ixN
  rw [List.length_map, if_pos h0, if_pos (by omega)]
  show (roads.map rdD)[r.toNat]? = _
  rw [List.getElem?_map, List.getElem?_eq_getElem hi]
  unfold road
  rw [List.getD_eq_getElem?_getD, List.getElem?_eq_getElem hi]
  rfl
theorem road_mem {roads : List (Int × Int)} {r : Int} (h0 : 0 ≤ r) (h1 : r < roads.length) : road roads r ∈ roads := by
  have hi : r.toNat < roads.length := by omega
  unfold road
  rw [List.getD_eq_getElem?_getD, List.getElem?_eq_getElem hi]
  exact List.getElem_mem _
def wf_line : WF := fun ds Q => ∃ (n : Nat) (roads : List (Int × Int)) (r : Int), ds = [frD n roads, .int r] ∧ 1 ≤ n ∧ n ≤ 1000 ∧ 0 ≤ r ∧ r < roads.length ∧ Q (rsD (lineS (n - 1) (road roads r)))
theorem hw_line (ds : List W2.D) (Q : W2.D → Prop) (_ : ds.length = 2) (h : wf_line ds Q) : wb_line_of wf_unit Po.wf_told { nx := fun _ => Q .none, rt := Q } (startE ["frame", "road", "a", "b", "found", "crossing", "number", "powers"] (ds.map .fz)) := by
  obtain ⟨n, roads, r, rfl, h1, hn, r0, r1, q⟩ := h
  refine ⟨_, rfl, _, road_at r0 r1, rfl, rfl, two_le, two_le, two_le, ?_⟩
  show forGo _ _ _ ([((road roads r).2, (1 : Int)), ((road roads r).1, -1)].map rdD) [.fz (frD n roads), .fz (.int r), .fz (.int (road roads r).1), .fz (.int (road roads r).2), .ow (mpD []), .un, .un, .un]
  refine for_foldW rdD (fun M η => Keys M ∧ ∃ a b c, η = [.fz (frD n roads), .fz (.int r), .fz (.int (road roads r).1), .fz (.int (road roads r).2), .ow (mpD M), a, b, c]) (lineIn (n - 1)) List.length (fun _ => 1) (fun M p => by
    unfold lineIn
    split
    · omega
    · exact put_length _ _ _) (B := 10) [((road roads r).2, (1 : Int)), ((road roads r).1, -1)] [] _ ⟨keys_nil, _, _, _, rfl⟩ (by show 0 + 2 ≤ 10; omega) (fun p hp M η hI hB Kc hK => ?_) (fun η hI => ?_)
  · obtain ⟨km, a, b, c, rfl⟩ := hI
    refine ⟨rfl, eqOk_of rfl rfl, ?_⟩
    show (if (!(p.1 == 0)) = true then _ else _)
    by_cases hp0 : p.1 = 0
    · have e : lineIn (n - 1) M p = M := if_pos hp0
      refine ifF (by rw [hp0]; rfl) ?_
      exact hK _ (by rw [e]; exact ⟨km, _, _, _, rfl⟩)
    · have e : lineIn (n - 1) M p = put M (unitP (n - 1) p.1) (val M (unitP (n - 1) p.1) + p.2) := if_neg hp0
      refine ifT (by rw [beq_eq_false_iff_ne.mpr hp0]; rfl) ?_
      refine ⟨_, rfl, rfl, n, p.1, rfl, h1, hn, ?_⟩
      refine ⟨keyOk_lot _, kindOk_mp M _, ?_⟩
      rw [dGet_val]
      refine ⟨keyOk_lot _, kindOk_mp M _, ?_, ?_⟩
      · rw [List.length_map, sizeLine_eq]; omega
      · rw [dPut_mp]
        exact hK _ (by rw [e]; exact ⟨put_keys km, _, _, _, rfl⟩)
  · obtain ⟨km, a, b, c, rfl⟩ := hI
    refine ⟨rfl, _, rfl, ?_, q⟩
    have key : ∀ (l : List (Int × Int)) (M : List LI), (l.foldl (lineIn (n - 1)) M).length ≤ M.length + l.length := by
      intro l
      induction l with
      | nil => intro M; exact Nat.le_refl _
      | cons x l ih =>
        intro M
        have h1 := ih (lineIn (n - 1) M x)
        have h2 : (lineIn (n - 1) M x).length ≤ M.length + 1 := by
          unfold lineIn
          split
          · omega
          · exact put_length _ _ _
        rw [List.foldl_cons, List.length_cons]
        omega
    have := key [((road roads r).2, (1 : Int)), ((road roads r).1, -1)] []
    have e2 : ([] : List LI).length + [((road roads r).2, (1 : Int)), ((road roads r).1, -1)].length = 2 := rfl
    omega
/-! plain: a line -/
theorem unit_pk (m : Nat) (c : Int) : (unitP m c).length = m ∧ ∀ x ∈ unitP m c, 0 ≤ x := by
  refine ⟨unit_len m c, fun x hx => ?_⟩
  unfold unitP at hx
  obtain ⟨i, _, rfl⟩ := List.mem_map.mp hx
  split <;> omega
theorem unit_sum : ∀ (m : Nat) (c : Int), (unitP m c).sum ≤ 1 ∧ ((unitP m c).sum = 1 → 1 ≤ c ∧ c ≤ m)
  | 0, c => ⟨by show (0 : Int) ≤ 1; omega, fun h => by cases h⟩
  | m + 1, c => by
    obtain ⟨h1, h2⟩ := unit_sum m c
    have hn := (unit_pk m c).2
    have hs := sum_nn _ hn
    have e : unitP (m + 1) c = unitP m c ++ [if 1 + (m : Int) = c then 1 else 0] := by unfold unitP; rw [List.range_succ, List.map_append]; rfl
    rw [e, List.sum_append]
    by_cases hc : 1 + (m : Int) = c
    · rw [if_pos hc]
      have z : (unitP m c).sum = 0 := by
        rcases Int.lt_or_le (unitP m c).sum 1 with h | h
        · omega
        · have := h2 (by omega); omega
      rw [z]
      show (0 : Int) + (1 + 0) ≤ 1 ∧ _
      exact ⟨by omega, fun _ => by omega⟩
    · rw [if_neg hc]
      show (unitP m c).sum + (0 + 0) ≤ 1 ∧ ((unitP m c).sum + (0 + 0) = 1 → _)
      exact ⟨by omega, fun h => by have := h2 (by omega); omega⟩
theorem unit_Pk (m : Nat) (c : Int) : Pk m 1 (unitP m c) := ⟨(unit_pk m c).1, (unit_pk m c).2, (unit_sum m c).1⟩
theorem line_ev (m : Nat) (r : Int × Int) (f : List Int → Int) : ev f (lineS m r) = (if r.2 = 0 then 0 else f (unitP m r.2)) - (if r.1 = 0 then 0 else f (unitP m r.1)) := by
  unfold lineS
  rw [ev_told]
  show ev f (lineIn m (lineIn m [] (r.2, 1)) (r.1, -1)) = _
  have k1 : Keys (lineIn m [] (r.2, 1)) := lineIn_keys _ _ keys_nil
  have st : ∀ (M : List LI) (p : Int × Int), Keys M → ev f (lineIn m M p) = ev f M + p.2 * (if p.1 = 0 then 0 else f (unitP m p.1)) := fun M p hM => by
    unfold lineIn
    by_cases c : p.1 = 0
    · rw [if_pos c, if_pos c, Int.mul_zero, Int.add_zero]
    · rw [if_neg c, if_neg c, ev_plus f hM]
  rw [st _ _ k1, st _ _ keys_nil, ev_nil]
  show 0 + 1 * (if r.2 = 0 then 0 else f (unitP m r.2)) + -1 * (if r.1 = 0 then 0 else f (unitP m r.1)) = _
  omega
theorem line_nf (m : Nat) (r : Int × Int) : Nf (lineS m r) := nf_told (keys_fold lineIn_keys _ _ keys_nil)
theorem line_pp (m : Nat) (r : Int × Int) : PP m 1 (lineS m r) := ⟨line_nf m r, fun p hp => by
  refine keys_of (P := fun k => Pk m 1 k) [] (fun M x hx hM => ?_) (fun _ h => nomatch h) p (mem_told.mp hp).1
  unfold lineIn
  split
  · exact hM
  · intro z hz
    rcases put_mem hz with e | e
    · rw [e]; exact unit_Pk m _
    · exact hM z e⟩
theorem line_nrm (m : Nat) (r : Int × Int) : nrm (lineS m r) ≤ 2 := by
  have st : ∀ (M : List LI) (p : Int × Int), Keys M → nrm (lineIn m M p) ≤ nrm M + p.2.natAbs := fun M p hM => by
    unfold lineIn
    split
    · omega
    · exact nrm_plus hM _ _
  have h1 := nrm_told ([(r.2, 1), (r.1, -1)].foldl (lineIn m) [])
  have h2 := st (lineIn m [] (r.2, 1)) (r.1, -1) (lineIn_keys _ _ keys_nil)
  have h3 := st [] (r.2, 1) keys_nil
  rw [nrm_nil] at h3
  have e : nrm ([(r.2, 1), (r.1, -1)].foldl (lineIn m) []) = nrm (lineIn m (lineIn m [] (r.2, 1)) (r.1, -1)) := rfl
  have e1 : ((r.2, (1 : Int)) : Int × Int).2.natAbs = 1 := rfl
  have e2 : ((r.1, (-1 : Int)) : Int × Int).2.natAbs = 1 := rfl
  unfold lineS
  omega
/-! ### products -/
def zeroP (m : Nat) : List Int := List.replicate m 0
def oneS (m : Nat) : List LI := [(zeroP m, 1)]
theorem zero_sum (m : Nat) : (zeroP m).sum = 0 := by
  unfold zeroP
  induction m with
  | zero => rfl
  | succ m ih => rw [List.replicate_succ, List.sum_cons, ih]; rfl
theorem zero_pk (m : Nat) : Pk m 0 (zeroP m) := ⟨List.length_replicate, fun x hx => by rw [(List.mem_replicate.mp hx).2]; exact Int.le_refl _, by rw [zero_sum]; exact Int.le_refl _⟩
theorem nf_one {k : List Int} {v : Int} (hv : v ≠ 0) : Nf [(k, v)] := by
  refine ⟨by show ([k] : List (List Int)).Nodup; simp, ?_⟩
  unfold W2.told nz
  rw [List.filter_cons, if_pos (decide_eq_true hv), List.filter_nil, List.mergeSort_singleton]
theorem one_pp (m : Nat) : PP m 0 (oneS m) := ⟨nf_one (by decide), fun p hp => by
  have : p = (zeroP m, 1) := by simpa [oneS] using hp
  rw [this]
  exact zero_pk m⟩
def prodS (m : Nat) (roads : List (Int × Int)) (lot : List Int) : List LI := lot.foldl (fun P r => pmul P (lineS m (road roads r))) (oneS m)
theorem prod_app (m : Nat) (roads : List (Int × Int)) (lot : List Int) (r : Int) : prodS m roads (lot ++ [r]) = pmul (prodS m roads lot) (lineS m (road roads r)) := by unfold prodS; rw [List.foldl_append]; rfl
theorem prod_all (m : Nat) (roads : List (Int × Int)) : ∀ (lot : List Int) (P : List LI) (d : Nat), PP m d P → PP m (d + lot.length) (lot.foldl (fun P r => pmul P (lineS m (road roads r))) P) ∧ nrm (lot.foldl (fun P r => pmul P (lineS m (road roads r))) P) ≤ nrm P * 2 ^ lot.length
  | [], P, d, h => ⟨h, by show nrm P ≤ nrm P * 1; omega⟩
  | r :: lot, P, d, h => by
    obtain ⟨h1, h2⟩ := prod_all m roads lot (pmul P (lineS m (road roads r))) (d + 1) (h.mul (line_pp m _))
    refine ⟨?_, ?_⟩
    · rw [List.length_cons, show d + (lot.length + 1) = d + 1 + lot.length by omega]
      exact h1
    · rw [List.foldl_cons, List.length_cons, Nat.pow_succ]
      refine Nat.le_trans h2 ?_
      have h3 := nrm_mul pop P (lineS m (road roads r))
      have h4 := Nat.mul_le_mul_left (nrm P) (line_nrm m (road roads r))
      have h5 := Nat.mul_le_mul_right (2 ^ lot.length) (Nat.le_trans h3 h4)
      rw [Nat.mul_comm (2 ^ lot.length) 2, ← Nat.mul_assoc]
      exact h5
theorem prod_pp (m : Nat) (roads : List (Int × Int)) (lot : List Int) : PP m lot.length (prodS m roads lot) := by
  have := (prod_all m roads lot (oneS m) 0 (one_pp m)).1
  rw [Nat.zero_add] at this
  exact this
theorem prod_nrm (m : Nat) (roads : List (Int × Int)) (lot : List Int) : nrm (prodS m roads lot) ≤ 2 ^ lot.length := by
  have := (prod_all m roads lot (oneS m) 0 (one_pp m)).2
  have e : nrm (oneS m) = 1 := rfl
  rw [e, Nat.one_mul] at this
  exact this
theorem prod_len (m : Nat) (roads : List (Int × Int)) (lot : List Int) : (prodS m roads lot).length ≤ 2 ^ lot.length := Nat.le_trans (prod_pp m roads lot).nf.len (prod_nrm m roads lot)
theorem rep_flat (d : W2.D) : ∀ k : Nat, (List.replicate k [d]).flatten = List.replicate k d
  | 0 => rfl
  | k + 1 => by rw [List.replicate_succ, List.flatten_cons, rep_flat d k, List.replicate_succ]; rfl
theorem zeros_D (m : Nat) : PyData.tuple (List.replicate m [PyData.int 0]).flatten = lotD (zeroP m) := by
  rw [rep_flat]
  unfold lotD zeroP
  rw [List.map_replicate]
def wf_prod : WF := fun ds Q => ∃ (n : Nat) (roads : List (Int × Int)) (lot : List Int), ds = [frD n roads, lotD lot] ∧ 1 ≤ n ∧ n ≤ 1000 ∧ lot.length ≤ 12 ∧ (∀ r ∈ lot, 0 ≤ r ∧ r < roads.length) ∧ Q (rsD (prodS (n - 1) roads lot))
theorem hw_prod (ds : List W2.D) (Q : W2.D → Prop) (_ : ds.length = 2) (h : wf_prod ds Q) : wb_product_of Po.wf_mul wf_line { nx := fun _ => Q .none, rt := Q } (startE ["frame", "lot", "found", "road"] (ds.map .fz)) := by
  obtain ⟨n, roads, lot, rfl, h1, hn, hl, hr, q⟩ := h
  refine ⟨one_le, _, rfl, (fun z => nomatch z), (show 1 ≤ 1000 by decide), by omega, by omega, two_le, one_le, ?_⟩
  have en : ((n : Int) - 1).toNat = n - 1 := by omega
  rw [en, zeros_D]
  show forGo _ _ _ (lot.map PyData.int) [.fz (frD n roads), .fz (lotD lot), .fz (rsD (oneS (n - 1))), .un]
  refine for_foldW PyData.int (fun (s : Nat × List LI) η => PP (n - 1) s.1 s.2 ∧ nrm s.2 ≤ 2 ^ s.1 ∧ ∃ a, η = [.fz (frD n roads), .fz (lotD lot), .fz (rsD s.2), a]) (fun s r => (s.1 + 1, pmul s.2 (lineS (n - 1) (road roads r)))) (fun s => s.1) (fun _ => 1) (fun s x => Nat.le_refl _) (B := 12) lot (0, oneS (n - 1)) _ ⟨one_pp _, Nat.le_refl _, _, rfl⟩ (by rw [sum_one]; show 0 + _ ≤ 12; omega) (fun r hr' s η hI hB Kc hK => ?_) (fun η hI => ?_)
  · obtain ⟨pp, nn, a, rfl⟩ := hI
    have hB' : s.1 + 1 ≤ 12 := hB
    have pw : 2 ^ s.1 ≤ 2048 := Nat.le_trans (Nat.pow_le_pow_right (by decide) (show s.1 ≤ 11 by omega)) (by decide)
    have lp := line_pp (n - 1) (road roads r)
    have ln := line_nrm (n - 1) (road roads r)
    obtain ⟨r0, r1⟩ := hr r hr'
    refine ⟨rfl, n, roads, r, rfl, h1, hn, r0, r1, rfl, s.2, _, rfl, pp.mulOk lp (by omega) ?_ (Nat.lt_of_le_of_lt (Nat.le_trans nn pw) (by decide)) (Nat.lt_of_le_of_lt ln (by decide)), ?_⟩
    · exact Nat.le_trans (Nat.mul_le_mul (Nat.le_trans pp.nf.len (Nat.le_trans nn pw)) (Nat.le_trans lp.nf.len ln)) (by decide)
    · refine hK _ ⟨pp.mul lp, ?_, _, rfl⟩
      rw [Nat.pow_succ]
      exact Nat.le_trans (nrm_mul pop _ _) (Nat.mul_le_mul nn ln)
  · obtain ⟨_, _, a, rfl⟩ := hI
    have e : ∀ (l : List Int) (s : Nat × List LI), (l.foldl (fun s r => (s.1 + 1, pmul s.2 (lineS (n - 1) (road roads r)))) s).2 = l.foldl (fun P r => pmul P (lineS (n - 1) (road roads r))) s.2 := by
      intro l
      induction l with
      | nil => intro s; rfl
      | cons x l ih => intro s; rw [List.foldl_cons, List.foldl_cons, ih]
    rw [e]
    exact q
end Li

set_option Elab.async false
set_option linter.all false
set_option maxRecDepth 100000
/-! W4B: slopes along lots of crossings: walked; plain: sums, products, in any sequence. -/
namespace Li
open PySem PySem.Spec PyProof.Rows L2 W2 PySem.W Sm Po

def dec (k : List Int) (c : Int) : List Int := k.set (c - 1).toNat (at_ k (c - 1) - 1)
def slopeIn (p : LI) (M : List LI) (c : Int) : List LI := if 0 < at_ p.1 (c - 1) then put M (dec p.1 c) (val M (dec p.1 c) + at_ p.1 (c - 1) * p.2) else M
def slopeOut (I : List Int) (M : List LI) (p : LI) : List LI := I.foldl (slopeIn p) M
def slopeS (s : List LI) (I : List Int) : List LI := W2.told (s.foldl (slopeOut I) [])
theorem slopeIn_keys {p : LI} (M : List LI) (c : Int) (h : Keys M) : Keys (slopeIn p M c) := by
  unfold slopeIn
  split
  · exact put_keys h
  · exact h
theorem slopeOut_keys {I : List Int} (M : List LI) (p : LI) (h : Keys M) : Keys (slopeOut I M p) := keys_fold slopeIn_keys _ _ h
theorem slopeIn_len (p : LI) (M : List LI) (c : Int) : (slopeIn p M c).length ≤ M.length + 1 := by
  unfold slopeIn
  split
  · exact put_length _ _ _
  · omega
theorem slopeOut_len (I : List Int) (M : List LI) (p : LI) : (slopeOut I M p).length ≤ M.length + I.length := by
  unfold slopeOut
  induction I generalizing M with
  | nil => exact Nat.le_refl _
  | cons x r ih =>
    have h1 := ih (slopeIn p M x)
    have h2 := slopeIn_len p M x
    rw [List.foldl_cons, List.length_cons]
    omega
/-- lots of crossings without the home -/
def Side (m : Nat) (I : List Int) : Prop := ∀ c ∈ I, 1 ≤ c ∧ c ≤ m
theorem dec_cut {k : List Int} {c : Int} (h1 : 1 ≤ c) (h2 : c ≤ k.length) : k.take (c - 1).toNat ++ (at_ k (c - 1) - 1) :: k.drop c.toNat = dec k c := by
  unfold dec
  have hj : (c - 1).toNat < k.length := by omega
  rw [List.set_eq_take_append_cons_drop, if_pos hj, show c.toNat = (c - 1).toNat + 1 by omega]
theorem cut_to {k : List Int} {c : Int} (h1 : 1 ≤ c) : W2.cutD (k.map PyData.int) none (some (c - 1)) = (k.take (c - 1).toNat).map .int := by
  have := cutT PyData.int k (c - 1).toNat
  rw [show (((c - 1).toNat : Nat) : Int) = c - 1 by omega] at this
  exact this
theorem cut_from {k : List Int} {c : Int} (h1 : 1 ≤ c) : W2.cutD (k.map PyData.int) (some c) none = (k.drop c.toNat).map .int := by
  have := cutDr PyData.int k c.toNat
  rw [show ((c.toNat : Nat) : Int) = c by omega] at this
  exact this
theorem at_small {m d : Nat} {k : List Int} (h : Pk m d k) {j : Int} : 0 ≤ at_ k j ∧ at_ k j ≤ d := by
  unfold at_
  rw [List.getD_eq_getElem?_getD]
  cases e : k[j.toNat]? with
  | none => exact ⟨Int.le_refl _, by show (0 : Int) ≤ d; omega⟩
  | some x =>
    have hx := List.mem_of_getElem? e
    have h1 := h.nn x hx
    have h2 := mem_sum h.nn x hx
    have h3 := h.deg
    exact ⟨h1, by show x ≤ d; omega⟩
def wf_slope : WF := fun ds Q => ∃ (m d : Nat) (s : List LI) (I : List Int), ds = [rsD s, lotD I] ∧ PP m d s ∧ m ≤ 1000 ∧ d ≤ 1000 ∧ Side m I ∧ s.length * I.length ≤ 100000 ∧ nrm s < 2 ^ 200 ∧ Q (rsD (slopeS s I))
theorem fold_lenI (I : List Int) : ∀ (l m : List LI), (l.foldl (slopeOut I) m).length ≤ m.length + l.length * I.length := fun l m => fold_len (slopeOut_len I) l m
def wb__law_slope (wf__law_told : WF) : WS :=
  wSeq (wAsgL (wDNew) 2) (wSeq (wFor (wItems (wN 0)) (wGt 2 (wGcons (wGn 3) (wGcons (wGn 4) (wGnil)))) (wFor (wItems (wN 1)) (wGn 5) (wSeq (wAsg (w2 gAdd (w2 gAdd (wSl (wB 3) (wNoPart) (wPart (w2 gSubI (wB 5) (wC (.int 1))))) (wTup (wCons (w2 gSubI (w2 gIxA (wB 3) (w2 gSubI (wB 5) (wC (.int 1)))) (wC (.int 1))) (wNil)))) (wSl (wB 3) (wPart (wB 5)) (wNoPart))) (wGn 6)) (wIf (wTrB (w2 gGtI (w2 gIxA (wB 3) (w2 gSubI (wB 5) (wC (.int 1)))) (wC (.int 0)))) (wStore 2 (wN 6) (w2 gAdd (wGet2 (wB 2) (wN 6) (wC (.int 0))) (w2 gMulI (wB 4) (w2 gIxA (wB 3) (w2 gSubI (wB 5) (wC (.int 1))))))) (wNext))))) (wFrz 2 (wRet (wFn 1 wf__law_told (wCons (wN 2) (wNil))))))
def wb__law_slopes (wf__law_slope : WF) : WS :=
  wSeq (wFor (wRng1 (wB 2)) (wGn 3) (wAsg (wFn 2 wf__law_slope (wCons (wN 0) (wCons (wN 1) (wNil)))) (wGn 0))) (wRet (wN 0))
theorem hw_slope (ds : List W2.D) (Q : W2.D → Prop) (_ : ds.length = 2) (h : wf_slope ds Q) : wb_slope_along Po.wf_told { nx := fun _ => Q .none, rt := Q } (startE ["poly", "lot", "found", "powers", "number", "crossing", "power", "late"] (ds.map .fz)) := by
  obtain ⟨m, d, s, I, rfl, pp, hm, hd, sd, hl, hb, q⟩ := h
  show forGo _ _ _ (s.map W2.prD) _
  refine for_foldW W2.prD (fun M η => Keys M ∧ ∃ a b c e f, η = [.fz (rsD s), .fz (lotD I), .ow (mpD M), a, b, c, e, f]) (slopeOut I) List.length (fun _ => I.length) (slopeOut_len I) (B := 100000) s [] _ ⟨keys_nil, .un, .un, .un, .un, .un, rfl⟩ (by rw [sum_const]; simpa using hl) (fun p hp M η hI hB Kc hK => ?_) fun η' hI => ?_
  · obtain ⟨km, a, b, c, e, f, rfl⟩ := hI
    have pk := pp.pk p hp
    refine ⟨rfl, ?_⟩
    show forGo _ _ _ (I.map PyData.int) _
    refine for_foldW PyData.int (fun M η => Keys M ∧ ∃ c e f, η = [.fz (rsD s), .fz (lotD I), .ow (mpD M), .fz (lotD p.1), .fz (.int p.2), c, e, f]) (slopeIn p) List.length (fun _ => 1) (slopeIn_len p) (B := 100000) I M _ ⟨km, c, e, f, rfl⟩ (by rw [sum_one]; exact hB) (fun x hx M η hI hB Kc hK => ?_) fun η' hI => ?_
    · obtain ⟨km, c, e, f, rfl⟩ := hI
      obtain ⟨x1, x2⟩ := sd x hx
      have xl : x ≤ p.1.length := by rw [pk.len]; omega
      obtain ⟨w0, w1⟩ := at_small (j := x - 1) pk
      refine ⟨_, at_row (r := p.1) (c := x - 1) (by omega) (by omega), ?_⟩
      show (if decide (0 < at_ p.1 (x - 1)) = true then _ else _)
      by_cases hw : 0 < at_ p.1 (x - 1)
      · have em : slopeIn p M x = put M (dec p.1 x) (val M (dec p.1 x) + at_ p.1 (x - 1) * p.2) := if_pos hw
        refine ifT (decide_eq_true hw) ?_
        have et : W2.cutD (p.1.map PyData.int) none (some (x - 1)) ++ PyData.int (at_ p.1 (x - 1) - 1) :: (W2.cutD (p.1.map PyData.int) (some x) none ++ []) = (dec p.1 x).map .int := by
          rw [cut_to x1, cut_from x1, List.append_nil, ← dec_cut x1 xl, List.map_append, List.map_cons]
        have dl : (dec p.1 x).length = m := by unfold dec; rw [List.length_set]; exact pk.len
        refine ⟨?_, ?_⟩
        · show (W2.cutD (p.1.map PyData.int) none (some (x - 1)) ++ PyData.int (at_ p.1 (x - 1) - 1) :: (W2.cutD (p.1.map PyData.int) (some x) none ++ [])).length ≤ sizeLine
          rw [et, List.length_map, dl]
          exact le_line (by omega)
        · have go : ∀ d : W2.D, d = lotD (dec p.1 x) → wStore 2 (wN 7) (w2 gAdd (wGet2 (wB 2) (wN 7) (wC (.int 0))) (w2 gMulI (wB 6) (wB 4))) { nx := Kc, rt := Q, bk := fun _ => False, ct := Kc } [.fz (rsD s), .fz (lotD I), .ow (mpD M), .fz (lotD p.1), .fz (.int p.2), .fz (.int x), .fz (.int (at_ p.1 (x - 1))), .fz d] := fun d ed => by
            subst ed
            refine ⟨keyOk_lot _, kindOk_mp M _, ?_⟩
            rw [dGet_val]
            refine ⟨small_mul (small_of (B := 1000) (by omega) (by decide)) (small_pow (k := 200) (Nat.lt_of_le_of_lt (nrm_mem hp) hb) (by decide)), ?_⟩
            refine ⟨keyOk_lot _, kindOk_mp M _, ?_, ?_⟩
            · rw [List.length_map]
              exact Nat.lt_of_lt_of_le (show M.length < 100001 by omega) (by rw [sizeLine_eq]; decide)
            · rw [dPut_mp]
              exact hK _ (by rw [em]; exact ⟨put_keys km, _, _, _, rfl⟩)
          exact go _ (congrArg PyData.tuple et)
      · have em : slopeIn p M x = M := if_neg hw
        refine ifF (decide_eq_false hw) ?_
        exact hK _ (by rw [em]; exact ⟨km, _, _, _, rfl⟩)
    · obtain ⟨km, c, e, f, rfl⟩ := hI
      exact hK _ ⟨km, _, _, _, _, _, rfl⟩
  · obtain ⟨km, a, b, c, e, f, rfl⟩ := hI
    refine ⟨rfl, _, rfl, ?_, q⟩
    have key := fold_lenI I s []
    rw [List.length_nil] at key
    omega
theorem hw_lslope (ds : List W2.D) (Q : W2.D → Prop) (_ : ds.length = 2) (h : wf_slope ds Q) : wb__law_slope Po.wf_ltold { nx := fun _ => Q .none, rt := Q } (startE ["poly", "lot", "found", "powers", "number", "c", "late"] (ds.map .fz)) := by
  obtain ⟨m, d, s, I, rfl, pp, hm, hd, sd, hl, hb, q⟩ := h
  show forGo _ _ _ (s.map W2.prD) _
  refine for_foldW W2.prD (fun M η => Keys M ∧ ∃ a b c e, η = [.fz (rsD s), .fz (lotD I), .ow (mpD M), a, b, c, e]) (slopeOut I) List.length (fun _ => I.length) (slopeOut_len I) (B := 100000) s [] _ ⟨keys_nil, .un, .un, .un, .un, rfl⟩ (by rw [sum_const]; simpa using hl) (fun p hp M η hI hB Kc hK => ?_) fun η' hI => ?_
  · obtain ⟨km, a, b, c, e, rfl⟩ := hI
    have pk := pp.pk p hp
    refine ⟨rfl, ?_⟩
    show forGo _ _ _ (I.map PyData.int) _
    refine for_foldW PyData.int (fun M η => Keys M ∧ ∃ c e, η = [.fz (rsD s), .fz (lotD I), .ow (mpD M), .fz (lotD p.1), .fz (.int p.2), c, e]) (slopeIn p) List.length (fun _ => 1) (slopeIn_len p) (B := 100000) I M _ ⟨km, c, e, rfl⟩ (by rw [sum_one]; exact hB) (fun x hx M η hI hB Kc hK => ?_) fun η' hI => ?_
    · obtain ⟨km, c, e, rfl⟩ := hI
      obtain ⟨x1, x2⟩ := sd x hx
      have xl : x ≤ p.1.length := by rw [pk.len]; omega
      obtain ⟨w0, w1⟩ := at_small (j := x - 1) pk
      have at1 := at_row (r := p.1) (c := x - 1) (by omega) (by omega)
      have dl : (dec p.1 x).length = m := by unfold dec; rw [List.length_set]; exact pk.len
      have et : (W2.cutD (p.1.map PyData.int) none (some (x - 1)) ++ [PyData.int (at_ p.1 (x - 1) - 1)]) ++ W2.cutD (p.1.map PyData.int) (some x) none = (dec p.1 x).map .int := by
        rw [cut_to x1, cut_from x1, ← dec_cut x1 xl, List.map_append, List.map_cons, List.append_assoc]
        rfl
      have ct := (cut_any (p.1.map PyData.int) none (some (x - 1))).1
      have cf := (cut_any (p.1.map PyData.int) (some x) none).1
      rw [List.length_map, pk.len] at ct cf
      refine ⟨_, at1, one_le, le_line (by show _ + 1 ≤ _; omega), le_line (by rw [List.length_append]; show _ + 1 + _ ≤ _; omega), ?_⟩
      refine ⟨_, at1, ?_⟩
      show (if decide (0 < at_ p.1 (x - 1)) = true then _ else _)
      by_cases hw : 0 < at_ p.1 (x - 1)
      · have em : slopeIn p M x = put M (dec p.1 x) (val M (dec p.1 x) + at_ p.1 (x - 1) * p.2) := if_pos hw
        refine ifT (decide_eq_true hw) ?_
        have go : ∀ d : W2.D, d = lotD (dec p.1 x) → wStore 2 (wN 6) (w2 gAdd (wGet2 (wB 2) (wN 6) (wC (.int 0))) (w2 gMulI (wB 4) (w2 gIxA (wB 3) (w2 gSubI (wB 5) (wC (.int 1)))))) { nx := Kc, rt := Q, bk := fun _ => False, ct := Kc } [.fz (rsD s), .fz (lotD I), .ow (mpD M), .fz (lotD p.1), .fz (.int p.2), .fz (.int x), .fz d] := fun d ed => by
            subst ed
            refine ⟨keyOk_lot _, kindOk_mp M _, ?_⟩
            rw [dGet_val]
            refine ⟨_, at1, small_mul (small_pow (k := 200) (Nat.lt_of_le_of_lt (nrm_mem hp) hb) (by decide)) (small_of (B := 1000) (by omega) (by decide)), ?_⟩
            refine ⟨keyOk_lot _, kindOk_mp M _, ?_, ?_⟩
            · rw [List.length_map]
              exact Nat.lt_of_lt_of_le (show M.length < 100001 by omega) (by rw [sizeLine_eq]; decide)
            · rw [dPut_mp, Int.mul_comm]
              exact hK _ (by rw [em]; exact ⟨put_keys km, _, _, rfl⟩)
        exact go _ (congrArg PyData.tuple et)
      · have em : slopeIn p M x = M := if_neg hw
        refine ifF (decide_eq_false hw) ?_
        exact hK _ (by rw [em]; exact ⟨km, _, _, rfl⟩)
    · obtain ⟨km, c, e, rfl⟩ := hI
      exact hK _ ⟨km, _, _, _, _, rfl⟩
  · obtain ⟨km, a, b, c, e, rfl⟩ := hI
    refine ⟨rfl, _, rfl, km, ?_, q⟩
    have key := fold_lenI I s []
    rw [List.length_nil] at key
    omega
/-! ### plain -/
def nab (I : List Int) (f : List Int → Int) (k : List Int) : Int := sm (fun c => at_ k (c - 1) * f (dec k c)) I
theorem slope_nf (s : List LI) (I : List Int) : Nf (slopeS s I) := nf_told (keys_fold slopeOut_keys _ _ keys_nil)
theorem slope_ev {m d : Nat} {s : List LI} (hs : PP m d s) (I : List Int) (f : List Int → Int) : ev f (slopeS s I) = ev (nab I f) s := by
  have inner : ∀ (p : LI) (d : Nat), Pk m d p.1 → ∀ (I : List Int) (M : List LI), Keys M → ev f (I.foldl (slopeIn p) M) = ev f M + p.2 * nab I f p.1 := by
    intro p d pk I
    induction I with
    | nil => intro M _; show ev f M = ev f M + p.2 * 0; omega
    | cons c I ih =>
      intro M hM
      rw [List.foldl_cons, ih _ (slopeIn_keys M c hM)]
      have e : nab (c :: I) f p.1 = at_ p.1 (c - 1) * f (dec p.1 c) + nab I f p.1 := sm_cons _ _ _
      rw [e, Int.mul_add]
      have w0 := (at_small (j := c - 1) pk).1
      unfold slopeIn
      by_cases hw : 0 < at_ p.1 (c - 1)
      · rw [if_pos hw, ev_plus f hM, Int.mul_comm (at_ p.1 (c - 1)) p.2, Int.mul_assoc]
        omega
      · rw [if_neg hw, show at_ p.1 (c - 1) = 0 by omega, Int.zero_mul, Int.mul_zero, Int.zero_add]
  have outer : ∀ (l : List LI), (∀ p ∈ l, Pk m d p.1) → ∀ (M : List LI), Keys M → ev f (l.foldl (slopeOut I) M) = ev f M + ev (nab I f) l := by
    intro l
    induction l with
    | nil => intro _ M _; rw [ev_nil]; exact (Int.add_zero _).symm
    | cons p l ih =>
      intro hp M hM
      rw [List.foldl_cons, ih (fun q hq => hp q (List.mem_cons_of_mem _ hq)) _ (slopeOut_keys M p hM), ev_cons]
      unfold slopeOut
      rw [inner p d (hp p List.mem_cons_self) I M hM]
      omega
  unfold slopeS
  rw [ev_told, outer s hs.pk [] keys_nil, ev_nil, Int.zero_add]
theorem dec_pk {m d : Nat} {k : List Int} {c : Int} (h : Pk m d k) (h1 : 1 ≤ c) (h2 : c ≤ m) (hw : 0 < at_ k (c - 1)) : Pk m d (dec k c) := by
  have hj : (c - 1).toNat < k.length := by rw [h.len]; omega
  refine ⟨by unfold dec; rw [List.length_set]; exact h.len, fun x hx => ?_, ?_⟩
  · unfold dec at hx
    rcases List.mem_or_eq_of_mem_set hx with e | e
    · exact h.nn x e
    · omega
  · have : (dec k c).sum = k.sum - 1 := by
      rw [← dec_cut h1 (by rw [h.len]; omega), List.sum_append, List.sum_cons]
      have e : k.take (c - 1).toNat ++ k.drop (c - 1).toNat = k := List.take_append_drop _ _
      have e2 : k.drop (c - 1).toNat = at_ k (c - 1) :: k.drop c.toNat := by
        rw [List.drop_eq_getElem_cons hj, show c.toNat = (c - 1).toNat + 1 by omega]
        congr 1
        unfold at_
        rw [List.getD_eq_getElem?_getD, List.getElem?_eq_getElem hj]
        rfl
      have e3 : k.sum = (k.take (c - 1).toNat).sum + (at_ k (c - 1) + (k.drop c.toNat).sum) := by
        rw [← List.sum_cons, ← e2, ← List.sum_append, e]
      omega
    have := h.deg
    omega
theorem slope_pp {m d : Nat} {s : List LI} {I : List Int} (hs : PP m d s) (hI : Side m I) : PP m d (slopeS s I) := ⟨slope_nf s I, fun p hp => by
  refine keys_of (P := fun k => Pk m d k) [] (fun M x hx hM => ?_) (fun _ h => nomatch h) p (mem_told.mp hp).1
  unfold slopeOut
  refine keys_of (P := fun k => Pk m d k) M (fun M c hc hM => ?_) hM
  unfold slopeIn
  by_cases hw : 0 < at_ x.1 (c - 1)
  · rw [if_pos hw]
    intro z hz
    rcases put_mem hz with e | e
    · rw [e]; exact dec_pk (hs.pk x hx) (hI c hc).1 (hI c hc).2 hw
    · exact hM z e
  · rw [if_neg hw]; exact hM⟩
theorem slope_nrm {m d : Nat} {s : List LI} (hs : PP m d s) (I : List Int) : nrm (slopeS s I) ≤ nrm s * (d * I.length) := by
  have inner : ∀ (p : LI), Pk m d p.1 → ∀ (I : List Int) (M : List LI), Keys M → nrm (I.foldl (slopeIn p) M) ≤ nrm M + p.2.natAbs * (d * I.length) := by
    intro p pk I
    induction I with
    | nil => intro M _; exact Nat.le_add_right _ _
    | cons c I ih =>
      intro M hM
      rw [List.foldl_cons, List.length_cons, Nat.mul_add, Nat.mul_one, Nat.mul_add]
      have h1 := ih _ (slopeIn_keys (p := p) M c hM)
      have h2 : nrm (slopeIn p M c) ≤ nrm M + p.2.natAbs * d := by
        unfold slopeIn
        by_cases hw : 0 < at_ p.1 (c - 1)
        · rw [if_pos hw]
          have h3 := nrm_plus hM (dec p.1 c) (at_ p.1 (c - 1) * p.2)
          have h4 := (at_small (j := c - 1) pk).2
          rw [Int.natAbs_mul] at h3
          have h5 : (at_ p.1 (c - 1)).natAbs * p.2.natAbs ≤ d * p.2.natAbs := Nat.mul_le_mul_right _ (by omega)
          rw [Nat.mul_comm d] at h5
          omega
        · rw [if_neg hw]; exact Nat.le_add_right _ _
      omega
  have outer : ∀ (l : List LI), (∀ p ∈ l, Pk m d p.1) → ∀ (M : List LI), Keys M → nrm (l.foldl (slopeOut I) M) ≤ nrm M + nrm l * (d * I.length) := by
    intro l
    induction l with
    | nil => intro _ M _; rw [nrm_nil]; exact Nat.le_add_right _ _
    | cons p l ih =>
      intro hp M hM
      rw [List.foldl_cons, nrm_cons, Nat.add_mul]
      have h1 := ih (fun q hq => hp q (List.mem_cons_of_mem _ hq)) _ (slopeOut_keys (I := I) M p hM)
      have h2 := inner p (hp p List.mem_cons_self) I M hM
      unfold slopeOut at h1 ⊢
      omega
  have h1 := nrm_told (s.foldl (slopeOut I) [])
  have h2 := outer s hs.pk [] keys_nil
  rw [nrm_nil] at h2
  unfold slopeS
  omega
theorem nab_ev (I : List Int) (g : List Int → List Int → Int) (t : List LI) (a : List Int) : nab I (fun a => ev (g a) t) a = ev (fun b => nab I (fun a => g a b) a) t := by
  unfold nab ev
  have e1 : ∀ c : Int, at_ a (c - 1) * sm (fun q : LI => q.2 * g (dec a c) q.1) t = sm (fun q : LI => at_ a (c - 1) * (q.2 * g (dec a c) q.1)) t := fun c => (sm_mul _ _ _).symm
  have e2 : ∀ q : LI, q.2 * sm (fun c => at_ a (c - 1) * g (dec a c) q.1) I = sm (fun c => q.2 * (at_ a (c - 1) * g (dec a c) q.1)) I := fun q => (sm_mul _ _ _).symm
  rw [sm_congr fun c _ => e1 c, sm_congr fun q _ => e2 q, sm_swap]
  exact sm_congr fun q _ => sm_congr fun c _ => Int.mul_left_comm _ _ _
theorem at_padd {a b : List Int} (h : a.length = b.length) (j : Int) : at_ (padd a b) j = at_ a j + at_ b j := by
  unfold at_ padd
  rw [List.getD_eq_getElem?_getD, List.getD_eq_getElem?_getD, List.getD_eq_getElem?_getD, List.getElem?_zipWith]
  by_cases hj : j.toNat < a.length
  · rw [List.getElem?_eq_getElem hj, List.getElem?_eq_getElem (show j.toNat < b.length by omega)]
    rfl
  · rw [List.getElem?_eq_none (by omega), List.getElem?_eq_none (by omega)]
    rfl
theorem at_dec {k : List Int} {c d : Int} (h1 : 1 ≤ c) (h2 : c ≤ k.length) (hd : 1 ≤ d) : at_ (dec k c) (d - 1) = if c = d then at_ k (d - 1) - 1 else at_ k (d - 1) := by
  have hj : (c - 1).toNat < k.length := by omega
  unfold dec
  show (k.set (c - 1).toNat (at_ k (c - 1) - 1)).getD (d - 1).toNat 0 = _
  rw [List.getD_eq_getElem?_getD, List.getElem?_set]
  by_cases e : c = d
  · subst e
    rw [if_pos rfl, if_pos hj, if_pos rfl]
    rfl
  · rw [if_neg (by omega), if_neg e, ← List.getD_eq_getElem?_getD]
    rfl
theorem dec_padd {a b : List Int} (h : a.length = b.length) {c : Int} (h1 : 1 ≤ c) (h2 : c ≤ a.length) : padd (dec a c) b = dec (padd a b) c := by
  apply List.ext_getElem?
  intro i
  have ha : at_ (padd a b) (c - 1) = at_ a (c - 1) + at_ b (c - 1) := at_padd h _
  unfold dec
  rw [ha]
  unfold padd
  rw [List.getElem?_zipWith, List.getElem?_set, List.getElem?_set, List.getElem?_zipWith, List.length_zipWith]
  by_cases e : (c - 1).toNat = i
  · subst e
    have hj : (c - 1).toNat < a.length := by omega
    have hj' : (c - 1).toNat < b.length := by omega
    rw [if_pos rfl, if_pos hj, if_pos rfl, if_pos (by omega), List.getElem?_eq_getElem hj']
    have e1 : at_ b (c - 1) = b[(c - 1).toNat] := by
      unfold at_
      rw [List.getD_eq_getElem?_getD, List.getElem?_eq_getElem hj']
      rfl
    rw [e1]
    show some _ = some _
    congr 1
    omega
  · rw [if_neg e, if_neg e]
theorem nab_padd {a b : List Int} (h : a.length = b.length) {I : List Int} (hI : Side a.length I) (f : List Int → Int) : nab I f (padd a b) = nab I (fun x => f (padd x b)) a + nab I (fun y => f (padd a y)) b := by
  unfold nab
  rw [← sm_add]
  refine sm_congr fun c hc => ?_
  obtain ⟨c1, c2⟩ := hI c hc
  show _ = at_ a (c - 1) * f (padd (dec a c) b) + at_ b (c - 1) * f (padd a (dec b c))
  rw [at_padd h, Int.add_mul, dec_padd h c1 c2, padd_comm a (dec b c), dec_padd h.symm c1 (by omega), padd_comm b a]
theorem slope_mul {m d e : Nat} {s t : List LI} {I : List Int} (hs : PP m d s) (ht : PP m e t) (hI : Side m I) : slopeS (pmul s t) I = psum (pmul (slopeS s I) t) (pmul s (slopeS t I)) 1 := by
  refine (slope_nf _ _).ext (psum_nf (nf_mul pop _ _).keys) fun f => ?_
  rw [psum_ev (s := pmul (slopeS s I) t) (nf_mul pop _ _).keys, slope_ev (hs.mul ht)]
  unfold pmul
  rw [ev_mul, ev_mul, ev_mul, slope_ev hs]
  have e1 : ev (fun a => ev (fun b => fo (nab I f) (pop a b)) t) s = ev (fun a => nab I (fun x => ev (fun b => fo f (pop x b)) t) a + ev (fun b => fo f (pop a b)) (slopeS t I)) s := ev_congr fun p hp => by
    have hp' := hs.pk p hp
    rw [slope_ev ht, nab_ev]
    unfold ev
    rw [← sm_add]
    refine sm_congr fun q hq => ?_
    have hq' := ht.pk q hq
    have hl : p.1.length = q.1.length := hp'.len.trans hq'.len.symm
    show q.2 * nab I f (padd p.1 q.1) = q.2 * nab I (fun x => f (padd x q.1)) p.1 + q.2 * nab I (fun y => f (padd p.1 y)) q.1
    rw [nab_padd hl (by rw [hp'.len]; exact hI), Int.mul_add]
  rw [e1]
  unfold ev
  rw [Int.one_mul, ← sm_add]
  exact sm_congr fun p _ => by rw [Int.mul_add]
theorem slope_sum {m d : Nat} {s t : List LI} {c : Int} {I : List Int} (hs : PP m d s) (ht : PP m d t) (hI : Side m I) : slopeS (psum s t c) I = psum (slopeS s I) (slopeS t I) c := by
  refine (slope_nf _ _).ext (psum_nf (slope_nf _ _).keys) fun f => ?_
  rw [psum_ev (slope_nf _ _).keys, slope_ev (hs.sum ht), psum_ev hs.nf.keys, slope_ev hs, slope_ev ht]
theorem dec_comm (k : List Int) {c d : Int} (h1 : 1 ≤ c) (h2 : c ≤ k.length) (h3 : 1 ≤ d) (h4 : d ≤ k.length) : dec (dec k c) d = dec (dec k d) c := by
  by_cases e : c = d
  · subst e; rfl
  · have a1 := at_dec (k := k) h1 h2 h3
    have a2 := at_dec (k := k) h3 h4 h1
    rw [if_neg e] at a1
    rw [if_neg (fun z => e z.symm)] at a2
    unfold dec at a1 a2 ⊢
    rw [a1, a2]
    exact List.set_comm _ _ (by omega)
theorem slope_comm {m d : Nat} {s : List LI} {I J : List Int} (hs : PP m d s) (hI : Side m I) (hJ : Side m J) : slopeS (slopeS s I) J = slopeS (slopeS s J) I := by
  refine (slope_nf _ _).ext (slope_nf _ _) fun f => ?_
  rw [slope_ev (slope_pp hs hI), slope_ev hs, slope_ev (slope_pp hs hJ), slope_ev hs]
  refine ev_congr fun p hp => ?_
  have hl := (hs.pk p hp).len
  unfold nab
  have e1 : ∀ c : Int, at_ p.1 (c - 1) * sm (fun d => at_ (dec p.1 c) (d - 1) * f (dec (dec p.1 c) d)) J = sm (fun d => at_ p.1 (c - 1) * (at_ (dec p.1 c) (d - 1) * f (dec (dec p.1 c) d))) J := fun c => (sm_mul _ _ _).symm
  have e2 : ∀ d : Int, at_ p.1 (d - 1) * sm (fun c => at_ (dec p.1 d) (c - 1) * f (dec (dec p.1 d) c)) I = sm (fun c => at_ p.1 (d - 1) * (at_ (dec p.1 d) (c - 1) * f (dec (dec p.1 d) c))) I := fun d => (sm_mul _ _ _).symm
  rw [sm_congr fun c _ => e1 c, sm_congr fun d _ => e2 d, sm_swap]
  refine sm_congr fun d hd => sm_congr fun c hc => ?_
  obtain ⟨c1, c2⟩ := hI c hc
  obtain ⟨d1, d2⟩ := hJ d hd
  rw [dec_comm p.1 c1 (by omega) d1 (by omega), at_dec c1 (by omega) d1, at_dec d1 (by omega) c1]
  by_cases e : c = d
  · subst e; rfl
  · rw [if_neg e, if_neg (fun z => e z.symm), ← Int.mul_assoc, ← Int.mul_assoc, Int.mul_comm (at_ p.1 (c - 1))]
theorem slope_both {m d : Nat} {s : List LI} {I J L : List Int} (hs : PP m d s) (hL : L.Perm (I ++ J)) : slopeS s L = psum (slopeS s I) (slopeS s J) 1 := by
  refine (slope_nf _ _).ext (psum_nf (slope_nf _ _).keys) fun f => ?_
  rw [psum_ev (slope_nf _ _).keys, slope_ev hs, slope_ev hs, slope_ev hs, Int.one_mul]
  unfold ev
  rw [← sm_add]
  refine sm_congr fun p _ => ?_
  rw [← Int.mul_add]
  congr 1
  unfold nab
  rw [sm_perm hL, sm_append]
theorem slope_nil (I : List Int) : slopeS [] I = [] := by
  refine (slope_nf _ _).ext nf_nil fun f => ?_
  rw [slope_ev (pp_nil 0 0)]
  rfl
theorem slope_none {m d : Nat} {s : List LI} (hs : PP m d s) : slopeS s [] = [] := by
  refine (slope_nf _ _).ext nf_nil fun f => ?_
  rw [slope_ev hs]
  show ev (fun _ => 0) s = 0
  unfold ev
  rw [sm_congr (g := fun _ => 0) fun p _ => Int.mul_zero _, sm_zero]
theorem psum_nil {t : List LI} {c : Int} : psum [] [] c = [] := by
  refine (psum_nf keys_nil).ext nf_nil fun f => ?_
  rw [psum_ev keys_nil, ev_nil]
  omega
theorem pmul_nil (t : List LI) : pmul [] t = [] := by
  refine (nf_mul pop _ _).ext nf_nil fun f => ?_
  rw [ev_mul]
  rfl
end Li

set_option Elab.async false
set_option linter.all false
set_option maxRecDepth 100000
/-! W4C: slopes taken some times, what is killed; slopes of lines; cuts; lots of crossings. -/
namespace Li
open PySem PySem.Spec PyProof.Rows L2 W2 PySem.W Sm Po

/-! how many keys there can be -/
def allK : Nat → Nat → List (List Int)
  | 0, _ => [[]]
  | m + 1, d => (List.range (d + 1)).flatMap fun i : Nat => (allK m d).map fun k => (i : Int) :: k
theorem allK_len : ∀ m d, (allK m d).length = (d + 1) ^ m
  | 0, _ => rfl
  | m + 1, d => by
    have e : ∀ l : List Nat, (l.flatMap fun i : Nat => (allK m d).map fun k => (i : Int) :: k).length = l.length * (d + 1) ^ m := by
      intro l
      induction l with
      | nil => simp
      | cons x l ih => rw [List.flatMap_cons, List.length_append, ih, List.length_map, allK_len m d, List.length_cons, Nat.succ_mul]; omega
    unfold allK
    rw [e, List.length_range, Nat.pow_succ, Nat.mul_comm]
theorem mem_allK : ∀ {m d : Nat} {k : List Int}, k.length = m → (∀ x ∈ k, 0 ≤ x ∧ x ≤ d) → k ∈ allK m d
  | 0, d, [], _, _ => List.mem_singleton.mpr rfl
  | m + 1, d, x :: k, hl, h => by
    obtain ⟨h0, h1⟩ := h x List.mem_cons_self
    unfold allK
    refine List.mem_flatMap.mpr ⟨x.toNat, List.mem_range.mpr (by omega), List.mem_map.mpr ⟨k, mem_allK (by simpa using hl) fun y hy => h y (List.mem_cons_of_mem _ hy), ?_⟩⟩
    rw [show ((x.toNat : Nat) : Int) = x by omega]
  | 0, _, _ :: _, hl, _ => by simp at hl
  | _ + 1, _, [], hl, _ => by simp at hl
theorem pp_len {m d : Nat} {s : List LI} (h : PP m d s) : s.length ≤ (d + 1) ^ m := by
  have h1 : (s.map (·.1)).length ≤ (allK m d).length := nodup_le h.nf.keys fun k hk => by
    obtain ⟨p, hp, rfl⟩ := List.mem_map.mp hk
    have pk := h.pk p hp
    refine mem_allK pk.len fun x hx => ⟨pk.nn x hx, ?_⟩
    have h2 := mem_sum pk.nn x hx
    have h3 := pk.deg
    omega
  rw [List.length_map, allK_len] at h1
  exact h1
def takenS (s : List LI) (I : List Int) : Nat → List LI
  | 0 => s
  | k + 1 => slopeS (takenS s I k) I
theorem taken_pp {m d : Nat} {s : List LI} {I : List Int} (hs : PP m d s) (hI : Side m I) : ∀ k, PP m d (takenS s I k)
  | 0 => hs
  | k + 1 => slope_pp (taken_pp hs hI k) hI
theorem taken_nrm {m d : Nat} {s : List LI} {I : List Int} (hs : PP m d s) (hI : Side m I) : ∀ k, nrm (takenS s I k) ≤ nrm s * (d * I.length + 1) ^ k
  | 0 => by show nrm s ≤ nrm s * 1; omega
  | k + 1 => by
    have h1 := slope_nrm (taken_pp hs hI k) I
    have h2 := Nat.mul_le_mul (taken_nrm hs hI k) (Nat.le_succ (d * I.length))
    rw [Nat.pow_succ, ← Nat.mul_assoc]
    exact Nat.le_trans h1 h2
structure TkOk (m d : Nat) (s : List LI) (I : List Int) (k : Nat) : Prop where
  pp : PP m d s
  hm : m ≤ 1000
  hd : d ≤ 1000
  sd : Side m I
  few : (d + 1) ^ m * I.length ≤ 100000
  num : nrm s * (d * I.length + 1) ^ k < 2 ^ 200
  hk : k ≤ 1000
def wf_taken : WF := fun ds Q => ∃ (m d : Nat) (s : List LI) (I : List Int) (k : Nat), ds = [rsD s, lotD I, .int k] ∧ TkOk m d s I k ∧ Q (rsD (takenS s I k))
theorem TkOk.step {m d : Nat} {s : List LI} {I : List Int} {k : Nat} (h : TkOk m d s I k) {i : Nat} (hi : i ≤ k) {Q : W2.D → Prop} (q : Q (rsD (takenS s I (i + 1)))) : wf_slope [rsD (takenS s I i), lotD I] Q := by
  refine ⟨m, d, _, I, rfl, taken_pp h.pp h.sd i, h.hm, h.hd, h.sd, ?_, ?_, q⟩
  · exact Nat.le_trans (Nat.mul_le_mul_right _ (pp_len (taken_pp h.pp h.sd i))) h.few
  · refine Nat.lt_of_le_of_lt (taken_nrm h.pp h.sd i) (Nat.lt_of_le_of_lt (Nat.mul_le_mul_left _ (Nat.pow_le_pow_right (by omega) hi)) h.num)
theorem taken_body {wr : WF} (hr : ∀ ds Q, wf_slope ds Q → wr ds Q) (ds : List W2.D) (Q : W2.D → Prop) (h : wf_taken ds Q) : wb_slope_taken wr { nx := fun _ => Q .none, rt := Q } (startE ["poly", "lot", "times", "lap"] (ds.map .fz)) := by
  obtain ⟨m, d, s, I, k, rfl, ok, q⟩ := h
  have hk := ok.hk
  refine ⟨⟨by omega, by omega⟩, ?_⟩
  show forGo _ _ _ (rangeD 0 (k : Int).toNat) _
  rw [Int.toNat_natCast, rangeD0]
  refine for_ix _ (fun i η => ∃ a, η = [.fz (rsD (takenS s I i)), .fz (lotD I), .fz (.int k), a]) (fun i hi η hI Kc hK => ?_) (fun η hI => ?_) ⟨_, rfl⟩
  · obtain ⟨a, rfl⟩ := hI
    exact ⟨rfl, hr _ _ (ok.step (by omega) (hK _ ⟨_, rfl⟩))⟩
  · obtain ⟨a, rfl⟩ := hI
    exact q
theorem hw_taken (ds : List W2.D) (Q : W2.D → Prop) (_ : ds.length = 3) (h : wf_taken ds Q) : wb_slope_taken wf_slope { nx := fun _ => Q .none, rt := Q } (startE ["poly", "lot", "times", "lap"] (ds.map .fz)) := taken_body (fun _ _ h => h) ds Q h
theorem hw_lslopes (ds : List W2.D) (Q : W2.D → Prop) (_ : ds.length = 3) (h : wf_taken ds Q) : wb__law_slopes wf_slope { nx := fun _ => Q .none, rt := Q } (startE ["poly", "lot", "times", "lap"] (ds.map .fz)) := taken_body (fun _ _ h => h) ds Q h
def wf_killed : WF := fun ds Q => ∃ (m d : Nat) (s : List LI) (I : List Int) (k : Nat), ds = [rsD s, lotD I, .int k] ∧ TkOk m d s I k ∧ Q (.bool (decide (takenS s I k = [])))
theorem hw_killed (ds : List W2.D) (Q : W2.D → Prop) (_ : ds.length = 3) (h : wf_killed ds Q) : wb_is_killed wf_taken { nx := fun _ => Q .none, rt := Q } (startE ["poly", "lot", "times"] (ds.map .fz)) := by
  obtain ⟨m, d, s, I, k, rfl, ok, q⟩ := h
  refine ⟨rfl, m, d, s, I, k, rfl, ok, Nat.zero_le _, rs_ok _ [], ?_⟩
  show Q (.bool (PyData.eqv (rsD (takenS s I k)) (rsD [])))
  rw [eqv_rs]
  exact q
/-! ### plain: what is killed -/
theorem taken_shift (s : List LI) (I : List Int) : ∀ k, takenS s I (k + 1) = takenS (slopeS s I) I k
  | 0 => rfl
  | k + 1 => by show slopeS (takenS s I (k + 1)) I = slopeS (takenS (slopeS s I) I k) I; rw [taken_shift s I k]
theorem taken_nil (I : List Int) : ∀ k, takenS [] I k = []
  | 0 => rfl
  | k + 1 => by show slopeS (takenS [] I k) I = []; rw [taken_nil I k, slope_nil]
theorem taken_more {s : List LI} {I : List Int} {k : Nat} (h : takenS s I k = []) : ∀ j, takenS s I (k + j) = []
  | 0 => h
  | j + 1 => by show slopeS (takenS s I (k + j)) I = []; rw [taken_more h j, slope_nil]
theorem psum_right {x : List LI} (hx : Nf x) {c : Int} : psum x [] c = x := by
  refine (psum_nf hx.keys).ext hx fun f => ?_
  rw [psum_ev hx.keys, ev_nil, Int.mul_zero, Int.add_zero]
theorem pmul_zero (s : List LI) : pmul s [] = [] := by rw [pmul_comm]; exact pmul_nil s
theorem taken_sum {m d : Nat} {s t : List LI} {I : List Int} (hs : PP m d s) (ht : PP m d t) (hI : Side m I) : ∀ k, takenS (psum s t 1) I k = psum (takenS s I k) (takenS t I k) 1
  | 0 => rfl
  | k + 1 => by
    show slopeS (takenS (psum s t 1) I k) I = _
    rw [taken_sum hs ht hI k, slope_sum (taken_pp hs hI k) (taken_pp ht hI k) hI]
    rfl
theorem taken_flat {m d e : Nat} {P l : List LI} {I : List Int} (hP : PP m d P) (hl : PP m e l) (hI : Side m I) (h : slopeS l I = []) : ∀ k, takenS (pmul P l) I k = pmul (takenS P I k) l
  | 0 => rfl
  | k + 1 => by
    show slopeS (takenS (pmul P l) I k) I = _
    rw [taken_flat hP hl hI h k, slope_mul (taken_pp hP hI k) hl hI, h, pmul_zero, psum_right (x := pmul (slopeS (takenS P I k) I) l) (nf_mul pop _ _)]
    rfl
theorem taken_steep {m e : Nat} {l : List LI} {I : List Int} (hl : PP m e l) (hI : Side m I) (h : slopeS (slopeS l I) I = []) : ∀ (k : Nat) {d : Nat} {P : List LI}, PP m d P → takenS P I k = [] → takenS (pmul P l) I (k + 1) = []
  | 0, d, P, hP, hz => by
    have : P = [] := hz
    subst this
    rw [pmul_nil]
    exact taken_nil I 1
  | k + 1, d, P, hP, hz => by
    rw [taken_shift, slope_mul hP hl hI]
    have sl := slope_pp hl hI
    have sP := slope_pp hP hI
    rw [taken_sum (sP.mul hl) (hP.mul sl) hI, taken_flat hP sl hI h (k + 1), hz, pmul_nil]
    rw [taken_steep hl hI h k sP (by rw [← taken_shift]; exact hz)]
    exact psum_nil (t := [])
def ind (I : List Int) (c : Int) : Int := if decide (c ∈ I) = true then 1 else 0
def due (I : List Int) (r : Int × Int) : Int := ind I r.2 - ind I r.1
theorem unit_at {m : Nat} {b c : Int} (h1 : 1 ≤ c) (h2 : c ≤ m) : at_ (unitP m b) (c - 1) = if c = b then 1 else 0 := by
  unfold at_ unitP
  have hi : (c - 1).toNat < m := by omega
  rw [List.getD_eq_getElem?_getD, List.getElem?_map, List.getElem?_range hi]
  show (if 1 + (((c - 1).toNat : Nat) : Int) = b then (1 : Int) else 0) = _
  rw [show 1 + (((c - 1).toNat : Nat) : Int) = c by omega]
theorem unit_dec {m : Nat} {b : Int} (h1 : 1 ≤ b) (h2 : b ≤ m) : dec (unitP m b) b = zeroP m := by
  have e := unit_at (b := b) h1 h2
  rw [if_pos rfl] at e
  unfold dec
  rw [e]
  apply List.ext_getElem?
  intro i
  unfold unitP zeroP
  rw [List.getElem?_set, List.length_map, List.length_range, List.getElem?_map, List.getElem?_replicate]
  by_cases hi : i < m
  · rw [if_pos hi, List.getElem?_range hi]
    by_cases e2 : (b - 1).toNat = i
    · rw [if_pos e2, if_pos (by omega)]; rfl
    · rw [if_neg e2]
      show some (if 1 + (i : Int) = b then (1 : Int) else 0) = some 0
      rw [if_neg (by omega)]
  · rw [if_neg hi]
    by_cases e2 : (b - 1).toNat = i
    · omega
    · rw [if_neg e2, List.getElem?_eq_none (by rw [List.length_range]; omega)]; rfl
theorem sm_ind {I : List Int} (hI : I.Nodup) (b v : Int) : sm (fun c => if c = b then v else 0) I = ind I b * v := by
  induction I with
  | nil => show (0 : Int) = 0 * v; omega
  | cons x I ih =>
    have h := List.nodup_cons.mp hI
    rw [sm_cons, ih h.2]
    unfold ind
    by_cases e : x = b
    · subst e
      have n1 : decide (x ∈ I) = false := decide_eq_false h.1
      have n2 : decide (x ∈ x :: I) = true := decide_eq_true List.mem_cons_self
      rw [if_pos rfl, n1, n2, if_neg (by decide), if_pos rfl]
      omega
    · rw [if_neg e]
      have : decide (b ∈ x :: I) = decide (b ∈ I) := by
        simp only [List.mem_cons]
        by_cases hb : b ∈ I
        · simp [hb]
        · simp [hb, show ¬ b = x from fun z => e z.symm]
      rw [this]
      omega
theorem nab_unit {m : Nat} {I : List Int} (hI : Side m I) (hn : I.Nodup) {b : Int} (h1 : 1 ≤ b) (h2 : b ≤ m) (f : List Int → Int) : nab I f (unitP m b) = ind I b * f (zeroP m) := by
  rw [← sm_ind hn b]
  unfold nab
  refine sm_congr fun c hc => ?_
  obtain ⟨c1, c2⟩ := hI c hc
  rw [unit_at c1 c2]
  by_cases e : c = b
  · subst e; rw [if_pos rfl, if_pos rfl, unit_dec c1 c2, Int.one_mul]
  · rw [if_neg e, if_neg e, Int.zero_mul]
theorem ind_home {m : Nat} {I : List Int} (hI : Side m I) : ind I 0 = 0 := by
  unfold ind
  have n : decide ((0 : Int) ∈ I) = false := decide_eq_false fun z => by have := (hI 0 z).1; omega
  rw [n]
  rfl
theorem line_slope {m : Nat} {I : List Int} (hI : Side m I) (hn : I.Nodup) {r : Int × Int} (ha : 0 ≤ r.1 ∧ r.1 ≤ m) (hb : 0 ≤ r.2 ∧ r.2 ≤ m) : slopeS (lineS m r) I = if due I r = 0 then [] else [(zeroP m, due I r)] := by
  have one : ∀ c : Int, 0 ≤ c → c ≤ m → ∀ f : List Int → Int, (if c = 0 then 0 else nab I f (unitP m c)) = ind I c * f (zeroP m) := fun c c0 c1 f => by
    by_cases e : c = 0
    · subst e; rw [if_pos rfl, ind_home hI]; omega
    · rw [if_neg e, nab_unit hI hn (by omega) c1]
  have key : ∀ f, ev f (slopeS (lineS m r) I) = due I r * f (zeroP m) := fun f => by
    rw [slope_ev (line_pp m r), line_ev, one r.2 hb.1 hb.2, one r.1 ha.1 ha.2]
    unfold due
    rw [Int.sub_mul]
  by_cases e : due I r = 0
  · rw [if_pos e]
    refine (slope_nf _ _).ext nf_nil fun f => ?_
    rw [key, e, ev_nil]; omega
  · rw [if_neg e]
    refine (slope_nf _ _).ext (nf_one e) fun f => ?_
    rw [key, ev_cons, ev_nil]
    show _ = due I r * f (zeroP m) + 0
    omega
theorem const_slope {m : Nat} {I : List Int} (hI : Side m I) (v : Int) : slopeS [(zeroP m, v)] I = [] := by
  by_cases hv : v = 0
  · subst hv
    have : slopeS [(zeroP m, 0)] I = [] := by
      have pp0 : ∀ p ∈ ([(zeroP m, (0 : Int))] : List LI), Pk m 0 p.1 := fun p hp => by rw [List.mem_singleton] at hp; rw [hp]; exact zero_pk m
      refine (slope_nf _ _).ext nf_nil fun f => ?_
      unfold slopeS
      rw [ev_told]
      show ev f (slopeOut I [] (zeroP m, 0)) = _
      have z : ∀ c, ¬ 0 < at_ (zeroP m) (c - 1) := fun c h => by
        have := at_small (zero_pk m) (j := c - 1)
        omega
      have e : ∀ (l : List Int) (M : List LI), l.foldl (slopeIn (zeroP m, 0)) M = M := by
        intro l
        induction l with
        | nil => intro M; rfl
        | cons c l ih =>
          intro M
          rw [List.foldl_cons, show slopeIn (zeroP m, 0) M c = M from if_neg (z c)]
          exact ih M
      unfold slopeOut
      rw [e]
    exact this
  · have pp : PP m 0 [(zeroP m, v)] := ⟨nf_one hv, fun p hp => by rw [List.mem_singleton] at hp; rw [hp]; exact zero_pk m⟩
    refine (slope_nf _ _).ext nf_nil fun f => ?_
    rw [slope_ev pp, ev_cons, ev_nil, ev_nil]
    have : nab I f (zeroP m) = 0 := by
      unfold nab
      rw [sm_congr (g := fun _ => 0) fun c hc => ?_, sm_zero]
      have := at_small (zero_pk m) (j := c - 1)
      rw [show at_ (zeroP m) (c - 1) = 0 by omega, Int.zero_mul]
    show v * nab I f (zeroP m) + 0 = 0
    rw [this]; omega
/-- how many roads of a lot have a slope along I -/
def steep (roads : List (Int × Int)) (I lot : List Int) : Nat := (lot.filter fun r => !decide (due I (road roads r) = 0)).length
theorem killed_at {m : Nat} {roads : List (Int × Int)} {I : List Int} (hI : Side m I) (hn : I.Nodup) : ∀ (lot : List Int) {d : Nat} {P : List LI} {k : Nat}, (∀ r ∈ lot, (0 ≤ (road roads r).1 ∧ (road roads r).1 ≤ m) ∧ 0 ≤ (road roads r).2 ∧ (road roads r).2 ≤ m) → PP m d P → takenS P I k = [] →
    takenS (lot.foldl (fun P r => pmul P (lineS m (road roads r))) P) I (k + steep roads I lot) = []
  | [], d, P, k, _, _, hz => hz
  | r :: lot, d, P, k, hr, hP, hz => by
    have lp := line_pp m (road roads r)
    obtain ⟨ha, hb⟩ := hr r List.mem_cons_self
    have ls := line_slope hI hn ha hb
    rw [List.foldl_cons]
    by_cases e : due I (road roads r) = 0
    · have es : steep roads I (r :: lot) = steep roads I lot := by
        unfold steep
        rw [List.filter_cons, if_neg (by simp [e])]
      rw [if_pos e] at ls
      rw [es]
      refine killed_at hI hn lot (fun x hx => hr x (List.mem_cons_of_mem _ hx)) (hP.mul lp) ?_
      rw [taken_flat hP lp hI ls, hz, pmul_nil]
    · have es : steep roads I (r :: lot) = steep roads I lot + 1 := by
        unfold steep
        rw [List.filter_cons, if_pos (by simp [e])]
        rfl
      rw [if_neg e] at ls
      rw [es, show k + (steep roads I lot + 1) = k + 1 + steep roads I lot by omega]
      refine killed_at hI hn lot (fun x hx => hr x (List.mem_cons_of_mem _ hx)) (hP.mul lp) ?_
      exact taken_steep lp hI (by rw [ls]; exact const_slope hI _) k hP hz
theorem prod_killed {m : Nat} {roads : List (Int × Int)} {I lot : List Int} (hI : Side m I) (hn : I.Nodup) (hr : ∀ r ∈ lot, (0 ≤ (road roads r).1 ∧ (road roads r).1 ≤ m) ∧ 0 ≤ (road roads r).2 ∧ (road roads r).2 ≤ m) {k : Nat} (hk : steep roads I lot < k) : takenS (prodS m roads lot) I k = [] := by
  have h := killed_at hI hn lot hr (one_pp m) (k := 1) (const_slope hI 1)
  have := taken_more h (k - (1 + steep roads I lot))
  rw [show 1 + steep roads I lot + (k - (1 + steep roads I lot)) = k by omega] at this
  exact this
/-! ### cuts -/
def isCut (lot : List Int) (p : Int × Int) : Bool := decide (p.1 ∈ lot) != decide (p.2 ∈ lot)
def cutS (roads : List (Int × Int)) (lot : List Int) : Nat := (roads.filter (isCut lot)).length
def wf_cut : WF := fun ds Q => ∃ (n : Int) (roads : List (Int × Int)) (lot : List Int), ds = [frD n roads, lotD lot] ∧ roads.length ≤ 1000 ∧ Q (.int (cutS roads lot))
theorem hw_cut (ds : List W2.D) (Q : W2.D → Prop) (_ : ds.length = 2) (h : wf_cut ds Q) : wb_cut_size { nx := fun _ => Q .none, rt := Q } (startE ["frame", "lot", "a", "b"] (ds.map .fz)) := by
  obtain ⟨n, roads, lot, rfl, hl, q⟩ := h
  refine ⟨.tuple (roads.map rdD), rfl, ?_⟩
  show lcGo _ _ _ _ (roads.map rdD) [] _
  refine lc_fm rdD (fun p => if isCut lot p = true then some (.int 1) else none) roads (fun p hp R hR => ?_) (Nat.le_trans hl (by rw [sizeLine_eq]; decide)) ?_
  · refine ⟨rfl, ?_⟩
    refine ⟨rfl, shaped_lot lot, ?_⟩
    refine ⟨rfl, shaped_lot lot, ?_⟩
    refine ⟨eqOk_of rfl rfl, ?_⟩
    show (if (!(((lot.map PyData.int).any fun z => PyData.eqv z (.int p.1)) == ((lot.map PyData.int).any fun z => PyData.eqv z (.int p.2)))) = true then R (some (.int 1)) else R none)
    rw [any_int, any_int]
    unfold isCut at hR
    by_cases c : (decide (p.1 ∈ lot) != decide (p.2 ∈ lot)) = true
    · rw [if_pos c] at hR
      rw [if_pos (by simpa [bne] using c)]
      exact hR
    · rw [if_neg c] at hR
      rw [if_neg (by simpa [bne] using c)]
      exact hR
  · rw [filterMap_some]
    show Q (.int (((roads.filter (isCut lot)).map fun _ => PyData.int 1).length : Nat))
    rw [List.length_map]
    exact q
theorem due_cut (I : List Int) (r : Int × Int) : (!decide (due I r = 0)) = isCut I r := by
  unfold due ind isCut
  by_cases h1 : r.1 ∈ I <;> by_cases h2 : r.2 ∈ I <;> simp [h1, h2]
end Li

set_option Elab.async false
set_option linter.all false
set_option maxRecDepth 100000
/-! W4D: lots of roads, lots of crossings, walked and said by the laws; pieces. -/
namespace Li
open PySem PySem.Spec PyProof.Rows L2 W2 PySem.W Sm Po

def wb_crossing_lots : WS :=
  wSeq (wAsg (wLst (wCons (wTup (wNil)) (wNil))) (wGn 1)) (wSeq (wFor (wRng2 (wC (.int 1)) (wB 0)) (wGn 2) (wAsg (w2 gCat (wB 1) (wLc (wItems (wN 1)) (wGn 3) (wYes) (wTup (wStar (wB 3) (wCons (wN 2) (wNil)))) [3])) (wGn 1))) (wRet (wSl (wCall gSorted (wCons (wB 1) (wNil))) (wPart (wC (.int 1))) (wNoPart))))
def wb__law_lots : WS :=
  wSeq (wAsg (wLst (wCons (wTup (wNil)) (wNil))) (wGn 1)) (wSeq (wFor (wRng1 (wB 0)) (wGn 2) (wAsg (w2 gCat (wB 1) (wLc (wItems (wN 1)) (wGn 3) (wYes) (w2 gAdd (wB 3) (wTup (wCons (wN 2) (wNil)))) [3])) (wGn 1))) (wRet (wCall gSorted (wCons (wB 1) (wNil)))))
def wb__law_crossing_lots (wf__law_lots : WF) : WS :=
  wRet (wSl (wLc (wItems (wFn 1 wf__law_lots (wCons (w2 gSubI (wB 0) (wC (.int 1))) (wNil)))) (wGn 1) (wYes) (wCall gTuple (wCons (wLc (wItems (wN 1)) (wGn 2) (wYes) (w2 gAdd (wB 2) (wC (.int 1))) [2]) (wNil))) [1]) (wPart (wC (.int 1))) (wNoPart))
def lotsU : Nat → List (List Int)
  | 0 => [[]]
  | i + 1 => lotsU i ++ (lotsU i).map fun l => l ++ [(i : Int)]
def lotsS (n : Nat) : List (List Int) := (lotsU n).mergeSort leL
theorem lotsU_len : ∀ n, (lotsU n).length = 2 ^ n
  | 0 => rfl
  | n + 1 => by
    unfold lotsU
    rw [List.length_append, List.length_map, lotsU_len n, Nat.pow_succ]
    omega
theorem lotsU_short : ∀ n l, l ∈ lotsU n → l.length ≤ n
  | 0, l, h => by
    have : l = [] := by simpa [lotsU] using h
    subst this; exact Nat.le_refl _
  | n + 1, l, h => by
    unfold lotsU at h
    rcases List.mem_append.mp h with h | h
    · exact Nat.le_succ_of_le (lotsU_short n l h)
    · obtain ⟨a, ha, rfl⟩ := List.mem_map.mp h
      rw [List.length_append]
      exact Nat.succ_le_succ (lotsU_short n a ha)
theorem mem_lotsU : ∀ (n : Nat) (K : List Int), K ∈ lotsU n ↔ SS K ∧ ∀ r ∈ K, 0 ≤ r ∧ r < n
  | 0, K => by
    constructor
    · intro h
      have : K = [] := by simpa [lotsU] using h
      subst this
      exact ⟨.nil, fun r hr => by cases hr⟩
    · rintro ⟨_, h⟩
      cases K with
      | nil => simp [lotsU]
      | cons r _ => have := h r List.mem_cons_self; omega
  | n + 1, K => by
    unfold lotsU
    rw [List.mem_append, mem_lotsU n K, List.mem_map]
    constructor
    · rintro (⟨h1, h2⟩ | ⟨l, hl, rfl⟩)
      · exact ⟨h1, fun r hr => by have := h2 r hr; omega⟩
      · obtain ⟨h1, h2⟩ := (mem_lotsU n l).mp hl
        refine ⟨?_, fun r hr => ?_⟩
        · unfold SS
          rw [List.pairwise_append]
          refine ⟨h1, by simp, fun a ha b hb => ?_⟩
          have : b = (n : Int) := by simpa using hb
          subst this
          exact (h2 a ha).2
        · rcases List.mem_append.mp hr with h | h
          · have := h2 r h; omega
          · have : r = (n : Int) := by simpa using h
            omega
    · rintro ⟨h1, h2⟩
      by_cases c : (n : Int) ∈ K
      · refine .inr ⟨K.dropLast, ?_, ?_⟩
        all_goals
          have ne : K ≠ [] := fun z => by subst z; cases c
          have eK : K.dropLast ++ [K.getLast ne] = K := List.dropLast_concat_getLast ne
          have pw : SS (K.dropLast ++ [K.getLast ne]) := by rw [eK]; exact h1
          unfold SS at pw
          rw [List.pairwise_append] at pw
          have gl : K.getLast ne = (n : Int) := by
            have hb := h2 _ (List.getLast_mem ne)
            have hn : (n : Int) ∈ K.dropLast ++ [K.getLast ne] := by rw [eK]; exact c
            rcases List.mem_append.mp hn with z | z
            · have := pw.2.2 _ z _ (List.mem_singleton.mpr rfl)
              omega
            · exact (List.mem_singleton.mp z).symm
        · refine (mem_lotsU n _).mpr ⟨pw.1, fun r hr => ?_⟩
          have h3 := h2 r (List.dropLast_subset _ hr)
          have h4 := pw.2.2 r hr _ (List.mem_singleton.mpr rfl)
          rw [gl] at h4
          exact ⟨h3.1, h4⟩
        · rw [gl] at eK
          exact eK
      · refine .inl ⟨h1, fun r hr => ?_⟩
        have := h2 r hr
        refine ⟨this.1, ?_⟩
        have ne : r ≠ (n : Int) := fun z => by subst z; exact c hr
        omega
def wf_lots : WF := fun ds Q => ∃ n : Nat, ds = [.int n] ∧ n ≤ 10 ∧ Q (.list ((lotsS n).map lotD))
theorem hw_llots (ds : List W2.D) (Q : W2.D → Prop) (_ : ds.length = 1) (h : wf_lots ds Q) : wb__law_lots { nx := fun _ => Q .none, rt := Q } (startE ["m", "found", "r", "lot"] (ds.map .fz)) := by
  obtain ⟨n, rfl, hn, q⟩ := h
  refine ⟨Nat.zero_le _, (show 1 ≤ sizeLine by decide), ⟨by omega, by omega⟩, ?_⟩
  show forGo _ _ _ ((List.range (Int.toNat n)).map fun i => .int (0 + (i : Nat))) _
  rw [Int.toNat_natCast]
  refine for_ix _ (fun i η => ∃ a b, η = [.fz (.int n), .fz (.list ((lotsU i).map lotD)), a, b]) (fun i hi η hI Kc hK => ?_) (fun η hI => ?_) ⟨.un, .un, rfl⟩
  · obtain ⟨a, b, rfl⟩ := hI
    have hp : (lotsU i).length ≤ 1024 := by
      rw [lotsU_len]
      exact Nat.le_trans (Nat.pow_le_pow_right (by decide) (show i ≤ 10 by omega)) (by decide)
    show lcGo _ _ _ _ ((lotsU i).map lotD) [] _
    refine lc_fm lotD (fun l => some (lotD (l ++ [(i : Int)]))) (lotsU i) (fun l hl R hR => ?_) (Nat.le_trans hp (by rw [sizeLine_eq]; decide)) ?_
    · refine ⟨(show 1 ≤ sizeLine by decide), ?_⟩
      refine ⟨?_, ?_⟩
      · show (l.map PyData.int).length + 1 ≤ sizeLine
        have := lotsU_short i l hl
        rw [List.length_map, sizeLine_eq]
        omega
      · show R (some (.tuple (l.map PyData.int ++ [.int (0 + (i : Int))])))
        rw [Int.zero_add]
        have e : lotD (l ++ [(i : Int)]) = .tuple (l.map PyData.int ++ [.int (i : Int)]) := by
          unfold lotD
          rw [List.map_append]; rfl
        rw [← e]
        exact hR
    · have e : (lotsU i).filterMap (fun l => some (lotD (l ++ [(i : Int)]))) = ((lotsU i).map fun l => l ++ [(i : Int)]).map lotD := by
        rw [List.map_map]
        exact congrFun List.filterMap_eq_map _
      rw [e]
      refine ⟨?_, ?_⟩
      · rw [List.length_map, List.length_map, List.length_map, sizeLine_eq]
        omega
      · rw [← List.map_append]
        exact hK _ ⟨_, _, rfl⟩
  · obtain ⟨a, b, rfl⟩ := hI
    refine ⟨layAll_map lay_lot _, sortOk_lot _, ?_⟩
    rw [sortD_lot]
    exact q
/-! lots of crossings: those of one less, each one more -/
def up (l : List Int) : List Int := l.map (· + 1)
def lotsC (m : Nat) : List (List Int) := ((lotsS m).map up).drop 1
theorem leL_up (a b : List Int) : leL (up a) (up b) = leL a b := by
  rw [leL_is, leL_is]
  have key : ∀ a b : List Int, (up a < up b) ↔ a < b := by
    intro a
    induction a with
    | nil => intro b; cases b <;> simp [up]
    | cons x a ih =>
      intro b
      cases b with
      | nil => simp [up]
      | cons y b =>
        have e1 : up (x :: a) = (x + 1) :: up a := rfl
        have e2 : up (y :: b) = (y + 1) :: up b := rfl
        rw [e1, e2, List.cons_lt_cons_iff, List.cons_lt_cons_iff, ih b]
        constructor
        · rintro (h | ⟨h, h'⟩)
          · exact .inl (by omega)
          · exact .inr ⟨by omega, h'⟩
        · rintro (h | ⟨h, h'⟩)
          · exact .inl (by omega)
          · exact .inr ⟨by omega, h'⟩
  have h2 : (up a ≤ up b) ↔ a ≤ b := by rw [← List.not_lt, ← List.not_lt, key]
  by_cases h : a ≤ b
  · rw [decide_eq_true h, decide_eq_true (h2.mpr h)]
  · rw [decide_eq_false h, decide_eq_false (fun z => h (h2.mp z))]
theorem sort_up (L : List (List Int)) : (L.map up).mergeSort leL = (L.mergeSort leL).map up := (sort_maps (r := leL) (s := leL) up fun a _ b _ => (leL_up a b).symm).symm
theorem lotsU_up_step (i : Nat) : (lotsU (i + 1)).map up = (lotsU i).map up ++ ((lotsU i).map up).map fun l => l ++ [(i : Int) + 1] := by
  show (lotsU i ++ (lotsU i).map fun l => l ++ [(i : Int)]).map up = _
  rw [List.map_append, List.map_map, List.map_map]
  congr 1
  refine List.map_congr_left fun l _ => ?_
  show (l ++ [(i : Int)]).map (· + 1) = l.map (· + 1) ++ [(i : Int) + 1]
  rw [List.map_append]
  rfl
def wf_lotsC : WF := fun ds Q => ∃ n : Nat, ds = [.int n] ∧ 1 ≤ n ∧ n ≤ 10 ∧ Q (.list ((lotsC (n - 1)).map lotD))
theorem hw_lotsC (ds : List W2.D) (Q : W2.D → Prop) (_ : ds.length = 1) (h : wf_lotsC ds Q) : wb_crossing_lots { nx := fun _ => Q .none, rt := Q } (startE ["n", "found", "crossing", "lot"] (ds.map .fz)) := by
  obtain ⟨n, rfl, h1, hn, q⟩ := h
  refine ⟨Nat.zero_le _, one_le, ⟨by omega, by omega, by omega, by omega⟩, ?_⟩
  show forGo _ _ _ (rangeD 1 ((n : Int) - 1).toNat) _
  have en : ((n : Int) - 1).toNat = n - 1 := by omega
  rw [en]
  unfold rangeD
  refine for_ix _ (fun i η => ∃ a b, η = [.fz (.int n), .fz (.list (((lotsU i).map up).map lotD)), a, b]) (fun i hi η hI Kc hK => ?_) (fun η hI => ?_) ⟨.un, .un, rfl⟩
  · obtain ⟨a, b, rfl⟩ := hI
    have hp : ((lotsU i).map up).length ≤ 1024 := by
      rw [List.length_map, lotsU_len]
      exact Nat.le_trans (Nat.pow_le_pow_right (by decide) (show i ≤ 10 by omega)) (by decide)
    show lcGo _ _ _ _ (((lotsU i).map up).map lotD) [] _
    refine lc_fm lotD (fun l => some (lotD (l ++ [(i : Int) + 1]))) ((lotsU i).map up) (fun l hl R hR => ?_) (Nat.le_trans hp (by rw [sizeLine_eq]; decide)) ?_
    · obtain ⟨l0, hl0, rfl⟩ := List.mem_map.mp hl
      have := lotsU_short i l0 hl0
      have el : (up l0).length = l0.length := by unfold up; rw [List.length_map]
      refine ⟨?_, ?_⟩
      · show ((up l0).map PyData.int ++ [PyData.int (1 + (i : Int))]).length ≤ sizeLine
        rw [List.length_append, List.length_map]
        exact le_line (by show _ + 1 ≤ _; omega)
      · show R (some (.tuple ((up l0).map PyData.int ++ [.int (1 + (i : Int))])))
        have e : lotD (up l0 ++ [(i : Int) + 1]) = .tuple ((up l0).map PyData.int ++ [.int (1 + (i : Int))]) := by
          unfold lotD
          rw [List.map_append, Int.add_comm]; rfl
        rw [← e]
        exact hR
    · rw [fm_map]
      have e : ((lotsU i).map up).map (fun l => lotD (l ++ [(i : Int) + 1])) = (((lotsU i).map up).map fun l => l ++ [(i : Int) + 1]).map lotD := by rw [List.map_map (g := lotD)]; rfl
      rw [e]
      refine ⟨?_, ?_⟩
      · rw [List.length_map] at hp
        simp only [List.length_map]
        rw [sizeLine_eq]
        omega
      · rw [← List.map_append, ← lotsU_up_step]
        exact hK _ ⟨_, _, rfl⟩
  · obtain ⟨a, b, rfl⟩ := hI
    refine ⟨layAll_map lay_lot _, sortOk_lot _, ?_⟩
    rw [sortD_lot, sort_up]
    show Q (.list (W2.cutD (((lotsS (n - 1)).map up).map lotD) (some 1) none))
    have ec : W2.cutD (((lotsS (n - 1)).map up).map lotD) (some 1) none = (lotsC (n - 1)).map lotD := cutDr lotD _ 1
    rw [ec]
    exact q
theorem hw_llotsC (ds : List W2.D) (Q : W2.D → Prop) (_ : ds.length = 1) (h : wf_lotsC ds Q) : wb__law_crossing_lots wf_lots { nx := fun _ => Q .none, rt := Q } (startE ["n", "lot", "c"] (ds.map .fz)) := by
  obtain ⟨n, rfl, h1, hn, q⟩ := h
  have en : ((n : Int) - 1) = ((n - 1 : Nat) : Int) := by omega
  refine ⟨rfl, n - 1, ?_, by omega, ?_⟩
  · show [PyData.int ((n : Int) - 1)] = _
    rw [en]
  show lcGo _ _ _ _ ((lotsS (n - 1)).map lotD) [] _
  have hl : (lotsS (n - 1)).length ≤ 1024 := by
    unfold lotsS
    rw [List.length_mergeSort, lotsU_len]
    exact Nat.le_trans (Nat.pow_le_pow_right (by decide) (show n - 1 ≤ 10 by omega)) (by decide)
  refine lc_fm lotD (fun l => some (lotD (up l))) (lotsS (n - 1)) (fun l hl R hR => ?_) (le_line (by omega)) ?_
  · have hl' := lotsU_short (n - 1) l ((List.mergeSort_perm _ _).mem_iff.mp hl)
    show lcGo _ _ _ _ (l.map PyData.int) [] _
    refine lc_fm PyData.int (fun x => some (.int (x + 1))) l (fun x hx R hR => hR) (le_line (by omega)) ?_
    rw [fm_map]
    have e : lotD (up l) = .tuple (l.map fun x => PyData.int (x + 1)) := by unfold lotD up; rw [List.map_map]; rfl
    rw [e] at hR
    exact hR
  · rw [fm_map]
    have e : (lotsS (n - 1)).map (fun l => lotD (up l)) = ((lotsS (n - 1)).map up).map lotD := by rw [List.map_map]; rfl
    rw [e]
    show Q (.list (W2.cutD (((lotsS (n - 1)).map up).map lotD) (some 1) none))
    have ec : W2.cutD (((lotsS (n - 1)).map up).map lotD) (some 1) none = (lotsC (n - 1)).map lotD := cutDr lotD _ 1
    rw [ec]
    exact q
/-- what they are -/
theorem mem_lotsC {m : Nat} {I : List Int} (h : I ∈ lotsC m) : SS I ∧ Side m I ∧ I.length ≤ m := by
  have h' := List.mem_of_mem_drop h
  obtain ⟨l, hl, rfl⟩ := List.mem_map.mp h'
  have hl' := (List.mergeSort_perm _ _).mem_iff.mp hl
  obtain ⟨h1, h2⟩ := (mem_lotsU m l).mp hl'
  refine ⟨?_, fun c hc => ?_, by unfold up; rw [List.length_map]; exact lotsU_short m l hl'⟩
  · unfold SS up
    rw [List.pairwise_map]
    exact List.Pairwise.imp (fun h => by omega) h1
  · obtain ⟨x, hx, rfl⟩ := List.mem_map.mp hc
    have := h2 x hx
    omega
theorem lotsU_nodup (n : Nat) : (lotsU n).Nodup := by
  induction n with
  | zero => simp [lotsU]
  | succ n ih =>
    unfold lotsU
    rw [List.nodup_append]
    refine ⟨ih, ?_, fun a ha b hb e => ?_⟩
    · refine List.nodup_iff_pairwise_ne.mpr (List.pairwise_map.mpr ((List.nodup_iff_pairwise_ne.mp ih).imp fun {a b} h z => h ?_))
      exact List.append_cancel_right z
    · obtain ⟨l, hl, rfl⟩ := List.mem_map.mp hb
      subst e
      have := ((mem_lotsU n _).mp ha).2 n (by simp)
      omega
/-- () comes first, and only there -/
theorem nil_lotsC {m : Nat} : ([] : List Int) ∉ lotsC m := by
  unfold lotsC
  have nd : ((lotsS m).map up).Nodup := by
    have h1 : (lotsS m).Nodup := (List.mergeSort_perm _ _).nodup_iff.mpr (lotsU_nodup m)
    refine List.nodup_iff_pairwise_ne.mpr (List.pairwise_map.mpr ((List.nodup_iff_pairwise_ne.mp h1).imp fun {a b} h z => h ?_))
    have e : ∀ l : List Int, (up l).map (· - 1) = l := fun l => by
      unfold up
      rw [List.map_map]
      have : ((fun x : Int => x - 1) ∘ fun x => x + 1) = id := by funext x; show x + 1 - 1 = x; omega
      rw [this, List.map_id]
    rw [← e a, ← e b, z]
  have pw : ((lotsS m).map up).Pairwise fun a b => leL a b = true := by
    have h1 : (lotsS m).Pairwise fun a b => leL a b = true := sort_pairwise leL_total _
    exact List.pairwise_map.mpr (h1.imp fun h => by rw [leL_up]; exact h)
  cases e : (lotsS m).map up with
  | nil => simp
  | cons x r =>
    rw [e] at nd pw
    show [] ∉ r
    intro hr
    have h1 := (List.pairwise_cons.mp pw).1 _ hr
    have h2 : x = [] := leL_anti h1 (by rw [leL_is]; exact decide_eq_true (List.nil_le _))
    rw [h2] at nd
    exact (List.nodup_cons.mp nd).1 hr
end Li

set_option Elab.async false
set_option linter.all false
set_option maxRecDepth 100000
/-! W4E: pieces by roads, as the laws find them; drawn frames, hung together or not. -/
namespace Li
open PySem PySem.Spec PyProof.Rows L2 W2 PySem.W Sm Po

def wb__law_pieces : WS :=
  wSeq (wAsg (wLstRg (wR1 (w2 gIxA (wB 0) (wC (.int 0))))) (wGn 2)) (wSeq (wFor (wItems (wN 1)) (wGn 3) (wSeq (wAsg (wLc (wItems (w2 gIxA (w2 gIxA (wB 0) (wC (.int 1))) (wN 3))) (wGn 6) (wYes) (w2 gIxA (wB 2) (wN 6)) [6]) (wGt 2 (wGcons (wGn 4) (wGcons (wGn 5) (wGnil))))) (wAsg (wLc (wItems (wN 2)) (wGn 7) (wYes) (wIfE (wTrB (w2 (gInA false) (wN 7) (wTup (wCons (wN 4) (wCons (wN 5) (wNil)))))) (wCall gMin2 (wCons (wB 4) (wCons (wB 5) (wNil)))) (wN 7)) [7]) (wGn 2)))) (wRet (wN 2)))
def wb__law_many_pieces (wf__law_pieces : WF) : WS :=
  wRet (wCall gLenX (wCons (wCall gDictX (wCons (wLc (wItems (wFn 2 wf__law_pieces (wCons (wN 0) (wCons (wN 1) (wNil))))) (wGn 2) (wYes) (wTup (wCons (wN 2) (wCons (wC (.int 0)) (wNil)))) [2]) (wNil))) (wNil)))
def wb__law_hung : WS :=
  wSeq (wPar [3, 4] (wMFz (w2 gAdd (wC (.int 1)) (wFnS 0 1 wfPick (wCons (wN 1) (wNil)))) (wMOw (wLst (wNil)) (wMNil)))) (wSeq (wAsg (wFnS 0 1 wfMixed (wCons (wLstRg (wR1 (wB 3))) (wNil))) (wGn 5)) (wSeq (wFor (wRng2 (wC (.int 1)) (wB 3)) (wGn 6) (wMutE 4 gAppend (wCons (wTup (wCons (w2 gIxA (wB 5) (wFnS 0 1 wfPick (wCons (wN 6) (wNil)))) (wCons (w2 gIxA (wB 5) (wN 6)) (wNil)))) (wNil)) (fun _ η Q => Q η))) (wSeq (wFor (wRng1 (wFnS 0 1 wfPick (wCons (wCall gMax2 (wCons (wC (.int 1)) (wCons (w2 gAdd (w2 gSubI (wB 2) (wB 3)) (wC (.int 2))) (wNil)))) (wNil)))) (wGn 7) (wMutE 4 gAppend (wCons (wTup (wCons (wFnS 0 1 wfPick (wCons (wN 3) (wNil))) (wCons (wFnS 0 1 wfPick (wCons (wN 3) (wNil))) (wNil)))) (wNil)) (fun _ η Q => Q η))) (wFrz 4 (wSeq (wAsgL (wLc (wItems (wFnS 0 1 wfMixed (wCons (wN 4) (wNil)))) (wGn 8) (wYes) (wIfE (wTrB (w2 gEq (wFnS 0 1 wfPick (wCons (wC (.int 2)) (wNil))) (wC (.int 0)))) (wRevT (wN 8)) (wN 8)) [8]) 4) (wRet (wTup (wCons (wN 3) (wCons (wCall gTuple (wCons (wB 4) (wNil))) (wNil))))))))))
def wb__law_frame (wf__law_hung : WF) : WS :=
  wSeq (wAsg (w2 gAdd (wC (.int 1)) (wFnS 0 1 wfPick (wCons (wN 1) (wNil)))) (wGn 3)) (wSeq (wIf (wTrB (w2 gGtI (wFnS 0 1 wfPick (wCons (wC (.int 3)) (wNil))) (wC (.int 0)))) (wRet (wFnS 0 2 wf__law_hung (wCons (wN 1) (wCons (wN 2) (wNil))))) (wNext)) (wRet (wTup (wCons (wN 3) (wCons (wCall gTuple (wCons (wLc (wRng1 (wFnS 0 1 wfPick (wCons (w2 gAdd (wB 2) (wC (.int 1))) (wNil)))) (wGn 4) (wYes) (wTup (wCons (wFnS 0 1 wfPick (wCons (wN 3) (wNil))) (wCons (wFnS 0 1 wfPick (wCons (wN 3) (wNil))) (wNil)))) [4]) (wNil))) (wNil))))))
def hstep (roads : List (Int × Int)) (heads : List Int) (r : Int) : List Int :=
  heads.map fun h => if h = at_ heads (road roads r).1 ∨ h = at_ heads (road roads r).2 then min (at_ heads (road roads r).1) (at_ heads (road roads r).2) else h
def piecesS (n : Nat) (roads : List (Int × Int)) (lot : List Int) : List Int := lot.foldl (hstep roads) ((List.range n).map fun i : Nat => (i : Int))
def wf_pieces : WF := fun ds Q => ∃ (n : Nat) (roads : List (Int × Int)) (lot : List Int) (d : W2.D), ds = [frD n roads, d] ∧ (d = lotD lot ∨ d = .list (lot.map .int)) ∧ n ≤ 1000 ∧ Good n roads ∧ (∀ r ∈ lot, 0 ≤ r ∧ r < roads.length) ∧ Q (.list ((piecesS n roads lot).map .int))
theorem hstep_len (roads : List (Int × Int)) (heads : List Int) (r : Int) : (hstep roads heads r).length = heads.length := by unfold hstep; rw [List.length_map]
theorem hw_pieces (ds : List W2.D) (Q : W2.D → Prop) (_ : ds.length = 2) (h : wf_pieces ds Q) : wb__law_pieces { nx := fun _ => Q .none, rt := Q } (startE ["frame", "roads", "heads", "r", "one", "other", "c", "head"] (ds.map .fz)) := by
  obtain ⟨n, roads, lot, d, rfl, hd, hn, hg, hl, q⟩ := h
  have main : forGo (wGn 3) (wSeq (wAsg (wLc (wItems (w2 gIxA (w2 gIxA (wB 0) (wC (.int 1))) (wN 3))) (wGn 6) (wYes) (w2 gIxA (wB 2) (wN 6)) [6]) (wGt 2 (wGcons (wGn 4) (wGcons (wGn 5) (wGnil))))) (wAsg (wLc (wItems (wN 2)) (wGn 7) (wYes) (wIfE (wTrB (w2 (gInA false) (wN 7) (wTup (wCons (wN 4) (wCons (wN 5) (wNil)))))) (wCall gMin2 (wCons (wB 4) (wCons (wB 5) (wNil)))) (wN 7)) [7]) (wGn 2)))
      { nx := fun η' => wRet (wN 2) { nx := fun _ => Q .none, rt := Q } η', rt := Q } (lot.map PyData.int) [.fz (frD n roads), .fz d, .fz (.list (((List.range n).map fun i : Nat => (i : Int)).map .int)), .un, .un, .un, .un, .un] := by
    refine for_fold PyData.int (fun heads η => heads.length = n ∧ ∃ a b c e f, η = [.fz (frD n roads), .fz d, .fz (.list (heads.map .int)), a, b, c, e, f]) (hstep roads) lot ((List.range n).map fun i : Nat => (i : Int)) _ ⟨by rw [List.length_map, List.length_range], _, _, _, _, _, rfl⟩ (fun r hr heads η hI Kc hK => ?_) (fun η hI => ?_)
    · obtain ⟨hlen, a, b, c, e, f, rfl⟩ := hI
      obtain ⟨r0, r1⟩ := hl r hr
      obtain ⟨⟨a0, a1⟩, b0, b1⟩ := hg _ (road_mem r0 r1)
      refine ⟨_, rfl, _, road_at r0 r1, ?_⟩
      show lcGo _ _ _ _ ([(road roads r).1, (road roads r).2].map PyData.int) [] _
      refine lc_fm PyData.int (fun c => some (.int (at_ heads c))) [(road roads r).1, (road roads r).2] (fun x hx R hR => ?_) (le_line (show 2 ≤ 1000000 by decide)) ?_
      · have hx' : 0 ≤ x ∧ x < heads.length := by
          simp only [List.mem_cons, List.not_mem_nil, or_false] at hx
          rcases hx with rfl | rfl
          · omega
          · omega
        exact ⟨_, at_row (r := heads) hx'.1 hx'.2, hR⟩
      · refine ⟨rfl, ?_⟩
        show lcGo _ _ _ _ (heads.map PyData.int) [] _
        refine lc_fm PyData.int (fun h => some (.int (if h = at_ heads (road roads r).1 ∨ h = at_ heads (road roads r).2 then min (at_ heads (road roads r).1) (at_ heads (road roads r).2) else h))) heads (fun x hx R hR => ?_) (le_line (by omega)) ?_
        · refine ⟨two_le, rfl, shaped_lot [at_ heads (road roads r).1, at_ heads (road roads r).2], ?_⟩
          show (if (([at_ heads (road roads r).1, at_ heads (road roads r).2].map PyData.int).any fun z => PyData.eqv z (.int x)) = true then _ else _)
          rw [any_int]
          by_cases hm : x = at_ heads (road roads r).1 ∨ x = at_ heads (road roads r).2
          · refine ifT (decide_eq_true (by simpa using hm)) ?_
            rw [if_pos hm] at hR
            have em : (if at_ heads (road roads r).2 < at_ heads (road roads r).1 then at_ heads (road roads r).2 else at_ heads (road roads r).1) = min (at_ heads (road roads r).1) (at_ heads (road roads r).2) := by split <;> omega
            rw [← em] at hR
            exact hR
          · refine ifF (decide_eq_false (by simpa using hm)) ?_
            rw [if_neg hm] at hR
            exact hR
        · rw [fm_map]
          have e2 : heads.map (fun h => PyData.int (if h = at_ heads (road roads r).1 ∨ h = at_ heads (road roads r).2 then min (at_ heads (road roads r).1) (at_ heads (road roads r).2) else h)) = (hstep roads heads r).map .int := by unfold hstep; rw [List.map_map]; rfl
          rw [e2]
          exact hK _ ⟨by rw [hstep_len]; exact hlen, _, _, _, _, _, rfl⟩
    · obtain ⟨hlen, a, b, c, e, f, rfl⟩ := hI
      exact q
  refine ⟨_, rfl, ⟨by omega, by omega, by omega, by omega, by omega⟩, ?_⟩
  have er : rangeD 0 ((n : Int) - 0).toNat = ((List.range n).map fun i : Nat => (i : Int)).map .int := by
    rw [show ((n : Int) - 0).toNat = n by omega, rangeD0, List.map_map]
    rfl
  rw [er]
  rcases hd with rfl | rfl
  · exact main
  · exact main
/-! how many pieces: one, just if all have the same head -/
def KeysI (es : List (W2.D × W2.D)) (ks : List Int) : Prop := es.map (·.1) = ks.map PyData.int
theorem pairsK_int (v : W2.D) : ∀ l : List Int, pairsK (l.map fun i => PyData.tuple [.int i, v]) = some (l.map fun i => ((.inl i : L2.Key), v))
  | [] => rfl
  | i :: l => by
    show (pairsK (l.map fun i => PyData.tuple [.int i, v])).map _ = _
    rw [pairsK_int v l]
    rfl
theorem dPut_keysI {es : List (W2.D × W2.D)} {ks : List Int} (h : KeysI es ks) (i : Int) (v : W2.D) : ∃ ks', KeysI (dPut es (.int i) v) ks' ∧ i ∈ ks' ∧ ∀ k ∈ ks, k ∈ ks' := by
  have hany : (es.any fun e => PyData.eqv e.1 (.int i)) = decide (i ∈ ks) := by
    have e1 : (es.any fun e => PyData.eqv e.1 (.int i)) = (es.map (·.1)).any fun k => PyData.eqv k (.int i) := by rw [List.any_map]; rfl
    rw [e1, h, any_int]
  unfold dPut
  rw [hany]
  by_cases hm : i ∈ ks
  · rw [if_pos (decide_eq_true hm)]
    refine ⟨ks, ?_, hm, fun k hk => hk⟩
    unfold KeysI
    rw [List.map_map, ← h]
    refine List.map_congr_left fun e _ => ?_
    show (if PyData.eqv e.1 (.int i) = true then (e.1, v) else e).1 = e.1
    split <;> rfl
  · rw [if_neg (by rw [decide_eq_true_eq]; exact hm)]
    refine ⟨ks ++ [i], ?_, by simp, fun k hk => List.mem_append.mpr (.inl hk)⟩
    unfold KeysI
    rw [List.map_append, h, List.map_append]
    rfl
theorem merge_keysI (v : W2.D) : ∀ (l : List Int) (es : List (W2.D × W2.D)) (ks : List Int), KeysI es ks → ∃ ks', KeysI ((l.map fun i => ((.inl i : L2.Key), v)).foldl (fun acc kv => dPut acc (kD kv.1) kv.2) es) ks' ∧ (∀ i ∈ l, i ∈ ks') ∧ ∀ k ∈ ks, k ∈ ks'
  | [], es, ks, h => ⟨ks, h, (fun _ h => nomatch h), fun _ h => h⟩
  | i :: l, es, ks, h => by
    obtain ⟨k1, h1, m1, s1⟩ := dPut_keysI h i v
    obtain ⟨k2, h2, m2, s2⟩ := merge_keysI v l _ k1 h1
    refine ⟨k2, h2, fun x hx => ?_, fun k hk => s2 k (s1 k hk)⟩
    rcases List.mem_cons.mp hx with e | e
    · subst e; exact s2 _ m1
    · exact m2 x e
def wf_many : WF := fun ds Q => ∃ (n : Nat) (roads : List (Int × Int)) (lot : List Int) (d : W2.D), ds = [frD n roads, d] ∧ (d = lotD lot ∨ d = .list (lot.map .int)) ∧ n ≤ 1000 ∧ Good n roads ∧ (∀ r ∈ lot, 0 ≤ r ∧ r < roads.length) ∧
  ∀ k : Nat, (k = 1 → ∀ x ∈ piecesS n roads lot, ∀ y ∈ piecesS n roads lot, x = y) → Q (.int k)
theorem pieces_len (n : Nat) (roads : List (Int × Int)) (lot : List Int) : (piecesS n roads lot).length = n := by
  unfold piecesS
  have key : ∀ (l heads : List Int), (l.foldl (hstep roads) heads).length = heads.length := by
    intro l
    induction l with
    | nil => intro heads; rfl
    | cons r l ih => intro heads; rw [List.foldl_cons, ih, hstep_len]
  rw [key, List.length_map, List.length_range]
theorem hw_many (ds : List W2.D) (Q : W2.D → Prop) (_ : ds.length = 2) (h : wf_many ds Q) : wb__law_many_pieces wf_pieces { nx := fun _ => Q .none, rt := Q } (startE ["frame", "lot", "head"] (ds.map .fz)) := by
  obtain ⟨n, roads, lot, d, rfl, hd, hn, hg, hl, q⟩ := h
  refine ⟨rfl, n, roads, lot, d, rfl, hd, hn, hg, hl, ?_⟩
  show lcGo _ _ _ _ ((piecesS n roads lot).map PyData.int) [] _
  refine lc_fm PyData.int (fun i => some (.tuple [.int i, .int 0])) (piecesS n roads lot) (fun x hx R hR => ⟨two_le, hR⟩) (le_line (by rw [pieces_len]; omega)) ?_
  rw [fm_map]
  refine .inl ?_
  refine ⟨_, pairsK_int (.int 0) _, ?_⟩
  obtain ⟨ks, h1, h2, _⟩ := merge_keysI (.int 0) (piecesS n roads lot) [] [] rfl
  refine q _ fun hk x hx y hy => ?_
  have hl1 : ks.length = 1 := by
    have := congrArg List.length h1
    rw [List.length_map, List.length_map] at this
    rw [← this]
    exact hk
  match ks, hl1, h2 x hx, h2 y hy with
  | [z], _, hx, hy => rw [List.mem_singleton.mp hx, List.mem_singleton.mp hy]
/-! plain: heads stay on their side -/
theorem at_range {n : Nat} {c : Int} (h0 : 0 ≤ c) (h1 : c < n) : at_ ((List.range n).map fun i : Nat => (i : Int)) c = c := by
  unfold at_
  rw [List.getD_eq_getElem?_getD, List.getElem?_map, List.getElem?_range (by omega)]
  show ((c.toNat : Nat) : Int) = c
  omega
theorem at_hstep {roads : List (Int × Int)} {heads : List Int} {r c : Int} (h0 : 0 ≤ c) (h1 : c < heads.length) : at_ (hstep roads heads r) c = if at_ heads c = at_ heads (road roads r).1 ∨ at_ heads c = at_ heads (road roads r).2 then min (at_ heads (road roads r).1) (at_ heads (road roads r).2) else at_ heads c := by
  have hi : c.toNat < heads.length := by omega
  have e : at_ heads c = heads[c.toNat] := by
    unfold at_
    rw [List.getD_eq_getElem?_getD, List.getElem?_eq_getElem hi]
    rfl
  have e2 : at_ (hstep roads heads r) c = (if heads[c.toNat] = at_ heads (road roads r).1 ∨ heads[c.toNat] = at_ heads (road roads r).2 then min (at_ heads (road roads r).1) (at_ heads (road roads r).2) else heads[c.toNat]) := by
    unfold hstep
    show (List.map _ heads).getD c.toNat 0 = _
    rw [List.getD_eq_getElem?_getD, List.getElem?_map, List.getElem?_eq_getElem hi]
    rfl
  rw [e2, e]
theorem heads_side {n : Nat} {roads : List (Int × Int)} (hg : Good n roads) {I : List Int} : ∀ (lot heads : List Int), heads.length = n → (∀ r ∈ lot, (0 ≤ r ∧ r < roads.length) ∧ isCut I (road roads r) = false) →
    (∀ c : Int, 0 ≤ c → c < n → (at_ heads c ∈ I ↔ c ∈ I)) → ∀ c : Int, 0 ≤ c → c < n → (at_ (lot.foldl (hstep roads) heads) c ∈ I ↔ c ∈ I)
  | [], heads, _, _, h => h
  | r :: lot, heads, hl, hr, h => by
    obtain ⟨⟨r0, r1⟩, hc⟩ := hr r List.mem_cons_self
    obtain ⟨⟨a0, a1⟩, b0, b1⟩ := hg _ (road_mem r0 r1)
    rw [List.foldl_cons]
    refine heads_side hg lot (hstep roads heads r) (by rw [hstep_len]; exact hl) (fun x hx => hr x (List.mem_cons_of_mem _ hx)) fun c c0 c1 => ?_
    rw [at_hstep c0 (by omega)]
    have ha := h _ a0 a1
    have hb := h _ b0 b1
    have hcut : ((road roads r).1 ∈ I) ↔ ((road roads r).2 ∈ I) := by
      unfold isCut at hc
      by_cases z1 : (road roads r).1 ∈ I <;> by_cases z2 : (road roads r).2 ∈ I <;> simp [z1, z2] at hc ⊢
    have hmin : min (at_ heads (road roads r).1) (at_ heads (road roads r).2) ∈ I ↔ (road roads r).1 ∈ I := by
      rcases Int.le_total (at_ heads (road roads r).1) (at_ heads (road roads r).2) with z | z
      · rw [Int.min_eq_left z]; exact ha
      · rw [Int.min_eq_right z]; exact hb.trans hcut.symm
    split
    · rename_i hm
      rw [hmin]
      have hcc := h c c0 c1
      rcases hm with e | e
      · rw [e] at hcc; exact ha.symm.trans hcc
      · rw [e] at hcc; exact hcut.trans (hb.symm.trans hcc)
    · exact h c c0 c1
/-- where all hangs together by some roads, one of them is in the cut of each lot -/
theorem cut_there {n : Nat} {roads : List (Int × Int)} (hn : 1 ≤ n) (hg : Good n roads) {lot I : List Int} (hl : ∀ r ∈ lot, 0 ≤ r ∧ r < roads.length) (hone : ∀ x ∈ piecesS n roads lot, ∀ y ∈ piecesS n roads lot, x = y) (hI : Side (n - 1) I) (hne : I ≠ []) :
    ∃ r ∈ lot, isCut I (road roads r) = true := by
  refine Classical.byContradiction fun hno => ?_
  have hr : ∀ r ∈ lot, (0 ≤ r ∧ r < roads.length) ∧ isCut I (road roads r) = false := fun r h => ⟨hl r h, by
    cases e : isCut I (road roads r) with
    | false => rfl
    | true => exact absurd ⟨r, h, e⟩ hno⟩
  have key := heads_side hg lot ((List.range n).map fun i : Nat => (i : Int)) (by rw [List.length_map, List.length_range]) hr (fun c c0 c1 => by rw [at_range c0 c1])
  obtain ⟨c, hc⟩ := List.exists_mem_of_ne_nil I hne
  obtain ⟨c1, c2⟩ := hI c hc
  have k0 := key 0 (by omega) (by omega)
  have kc := key c (by omega) (by omega)
  have mem : ∀ j : Int, 0 ≤ j → j < n → at_ (piecesS n roads lot) j ∈ piecesS n roads lot := fun j j0 j1 => by
    have hi : j.toNat < (piecesS n roads lot).length := by rw [pieces_len]; omega
    unfold at_
    rw [List.getD_eq_getElem?_getD, List.getElem?_eq_getElem hi]
    exact List.getElem_mem _
  have e := hone _ (mem 0 (by omega) (by omega)) _ (mem c (by omega) (by omega))
  have : (0 : Int) ∈ I := k0.mp (by
    have := kc.mpr hc
    unfold piecesS at e
    rw [e]
    exact this)
  have := (hI 0 this).1
  omega
/-! ### drawn frames -/
def wf_hung : WF := fun ds Q => ∃ cr rd : Int, ds = [.int cr, .int rd] ∧ 1 ≤ cr ∧ cr ≤ 100 ∧ 0 ≤ rd ∧ rd ≤ 100 ∧ ∀ (n : Nat) roads, 1 ≤ n → (n : Int) ≤ cr → (roads.length : Int) ≤ max ((n : Int) - 1) rd → Good n roads → Q (frD n roads)
theorem g_add {a b c : Int} (h : a + b = c) {F : W2.D → Prop} (f : F (.int c)) : gAdd (.int a) (.int b) F := by
  subst h
  exact f
theorem names_at {n : Nat} {vs : List Int} (hl : vs.length = n) (hv : ∀ v ∈ vs, 0 ≤ v ∧ v < (n : Int)) {c : Int} (h0 : 0 ≤ c) (h1 : c < n) : L2.atI (vs.map PyData.int) c = some (.int (at_ vs c)) ∧ 0 ≤ at_ vs c ∧ at_ vs c < n := by
  refine ⟨at_row h0 (by omega), hv _ ?_⟩
  have hi : c.toNat < vs.length := by omega
  unfold at_
  rw [List.getD_eq_getElem?_getD, List.getElem?_eq_getElem hi]
  exact List.getElem_mem _
theorem hw_hung (ds : List W2.D) (Q : W2.D → Prop) (_ : ds.length = 2) (h : wf_hung ds Q) : wb__law_hung { nx := fun _ => Q .none, rt := Q } (startE ["source", "crossings", "roads", "n", "pairs", "names", "k", "lap", "pair"] (.src :: ds.map .fz)) := by
  obtain ⟨cr, rd, rfl, hc1, hc2, hr1, hr2, q⟩ := h
  refine ⟨rfl, by omega, fun r h0 h1 => ?_⟩
  obtain ⟨n, hn⟩ : ∃ n : Nat, (1 : Int) + r = n := ⟨(1 + r).toNat, by omega⟩
  have n1 : 1 ≤ n := by omega
  refine g_add hn ?_
  refine ⟨Nat.zero_le _, rfl, ?_⟩
  refine ⟨⟨by omega, by omega, by omega, by omega, by omega⟩, rfl, ?_, fun ys hp => ?_⟩
  · show (rangeD 0 ((n : Int) - 0).toNat).length < 16777216
    unfold rangeD
    rw [List.length_map, List.length_range]
    omega
  have er : rangeD 0 ((n : Int) - 0).toNat = ((List.range n).map fun i : Nat => (i : Int)).map .int := by
    rw [show ((n : Int) - 0).toNat = n by omega, rangeD0, List.map_map]
    rfl
  obtain ⟨vs, hv, rfl⟩ := perm_of_map hp _ er
  have hvl : vs.length = n := by rw [hv.length_eq, List.length_map, List.length_range]
  have hvm : ∀ v ∈ vs, 0 ≤ v ∧ v < (n : Int) := fun v h => by
    obtain ⟨i, hi, rfl⟩ := List.mem_map.mp (hv.mem_iff.mp h)
    have := List.mem_range.mp hi
    omega
  refine ⟨⟨by omega, by omega, by omega, by omega⟩, ?_⟩
  show forGo _ _ _ (rangeD 1 ((n : Int) - 1).toNat) _
  rw [show ((n : Int) - 1).toNat = n - 1 by omega]
  unfold rangeD
  refine for_ix _ (fun i η => ∃ (s : List (Int × Int)) (a : Slot), s.length = i ∧ Good n s ∧ η = [.src, .fz (.int cr), .fz (.int rd), .fz (.int n), .ow (.list (s.map rdD)), .fz (.list (vs.map .int)), a, .un, .un]) (fun i hi η hI Kc hK => ?_) (fun η hI => ?_) ⟨[], .un, rfl, (fun _ h => nomatch h), rfl⟩
  · obtain ⟨s, a, hl, hg, rfl⟩ := hI
    refine ⟨rfl, rfl, by omega, fun x x0 x1 => ?_⟩
    obtain ⟨e1, g1⟩ := names_at hvl hvm (c := x) x0 (by omega)
    obtain ⟨e2, g2⟩ := names_at hvl hvm (c := 1 + (i : Int)) (by omega) (by omega)
    refine ⟨_, e1, _, e2, two_le, ?_, ?_⟩
    · rw [List.length_map, sizeLine_eq]; omega
    · show Kc [.src, .fz (.int cr), .fz (.int rd), .fz (.int n), .ow (.list (s.map rdD ++ [.tuple [.int (at_ vs x), .int (at_ vs (1 + (i : Int)))]])), .fz (.list (vs.map .int)), .fz (.int (1 + (i : Int))), .un, .un]
      rw [rd_snoc]
      exact hK _ ⟨_, _, by rw [List.length_append, hl]; rfl, good_snoc hg g1 g2, rfl⟩
  · obtain ⟨s0, a, hl0, hg0, rfl⟩ := hI
    have emax : ∀ z : Int, (if z > 1 then z else 1) = max 1 z := fun z => by split <;> omega
    refine ⟨rfl, ?_, fun x x0 x1 => ?_⟩
    · show (if rd - (n : Int) + 2 > 1 then rd - (n : Int) + 2 else 1) < 1073741824
      rw [emax]; omega
    have x2 : x < max 1 (max 1 (rd - (n : Int) + 2)) := by
      have x1' : x < max 1 (if rd - (n : Int) + 2 > 1 then rd - (n : Int) + 2 else 1) := x1
      rw [emax] at x1'
      exact x1'
    refine ⟨⟨by omega, by omega⟩, ?_⟩
    show forGo _ _ _ (rangeD 0 x.toNat) _
    rw [rangeD0]
    refine for_ix _ (fun i η => ∃ (s : List (Int × Int)) (b : Slot), s.length = n - 1 + i ∧ Good n s ∧ η = [.src, .fz (.int cr), .fz (.int rd), .fz (.int n), .ow (.list (s.map rdD)), .fz (.list (vs.map .int)), a, b, .un]) (fun i hi η hI Kc hK => ?_) (fun η hI => ?_) ⟨s0, .un, by omega, hg0, rfl⟩
    · obtain ⟨s, b, hl, hg, rfl⟩ := hI
      refine ⟨rfl, rfl, by omega, fun u u0 u1 => ⟨rfl, by omega, fun v v0 v1 => ⟨two_le, ?_, ?_⟩⟩⟩
      · rw [List.length_map, sizeLine_eq]; omega
      · show Kc [.src, .fz (.int cr), .fz (.int rd), .fz (.int n), .ow (.list (s.map rdD ++ [.tuple [.int u, .int v]])), .fz (.list (vs.map .int)), a, .fz (.int (i : Int)), .un]
        rw [rd_snoc]
        exact hK _ ⟨_, _, by rw [List.length_append, hl]; rfl, good_snoc hg (by omega) (by omega), rfl⟩
    · obtain ⟨s, b, hl, hg, rfl⟩ := hI
      refine ⟨rfl, by show (s.map rdD).length < 16777216; rw [List.length_map]; omega, fun ys hp => ?_⟩
      obtain ⟨t, ht, rfl⟩ := perm_of_map hp s rfl
      have hgt : Good n t := fun p hp => hg p (ht.mem_iff.mp hp)
      have htl : t.length = n - 1 + x.toNat := ht.length_eq.trans hl
      show lcGo _ _ _ _ (t.map rdD) [] _
      refine lc_rel rdD (fun p o => o = some (rdD p) ∨ o = some (rdD (p.2, p.1))) t [] (fun p hp R hR => ?_) (by show 0 + t.length ≤ _; rw [sizeLine_eq]; omega) fun os hos => ?_
      · refine ⟨rfl, by decide, fun z z0 z1 => ⟨eqOk_of rfl rfl, ?_⟩⟩
        show (if (z == 0) = true then _ else _)
        cases (z == 0) with
        | true => exact ifT rfl (hR _ (.inr rfl))
        | false => exact ifF rfl (hR _ (.inl rfl))
      · obtain ⟨u, e, hul, hgu⟩ := flip_out hos hgt
        rw [List.nil_append, e]
        refine ⟨two_le, ?_⟩
        exact q n u n1 (by omega) (by rw [hul, htl]; omega) hgu
def wf_lframe : WF := fun ds Q => ∃ cr rd : Int, ds = [.int cr, .int rd] ∧ 1 ≤ cr ∧ cr ≤ 100 ∧ 0 ≤ rd ∧ rd ≤ 100 ∧ ∀ (n : Nat) roads, 1 ≤ n → (n : Int) ≤ cr → (roads.length : Int) ≤ max ((n : Int) - 1) rd → Good n roads → Q (frD n roads)
theorem hw_lframe (ds : List W2.D) (Q : W2.D → Prop) (_ : ds.length = 2) (h : wf_lframe ds Q) : wb__law_frame wf_hung { nx := fun _ => Q .none, rt := Q } (startE ["source", "crossings", "roads", "n", "r"] (.src :: ds.map .fz)) := by
  obtain ⟨cr, rd, rfl, hc1, hc2, hr1, hr2, q⟩ := h
  refine ⟨rfl, by omega, fun r h0 h1 => ?_⟩
  obtain ⟨n, hn⟩ : ∃ n : Nat, (1 : Int) + r = n := ⟨(1 + r).toNat, by omega⟩
  refine g_add hn ?_
  refine ⟨rfl, (show (3 : Int) < 1073741824 by decide), fun z z0 z1 => ?_⟩
  show (if decide (0 < z) = true then _ else _)
  by_cases hz : 0 < z
  · refine ifT (decide_eq_true hz) ?_
    exact ⟨rfl, cr, rd, rfl, hc1, hc2, hr1, hr2, q⟩
  · refine ifF (decide_eq_false hz) ?_
    refine ⟨rfl, by omega, fun x x0 x1 => ⟨⟨by omega, by omega⟩, ?_⟩⟩
    show lcGo _ _ _ _ (rangeD 0 x.toNat) [] _
    rw [rangeD0]
    refine lc_draw _ (fun y => ∃ p : Int × Int, y = rdD p ∧ (0 ≤ p.1 ∧ p.1 < n) ∧ 0 ≤ p.2 ∧ p.2 < n) (List.range x.toNat) (fun i hi R hR => ?_) (le_line (by rw [List.length_range]; omega)) fun ys hyl hy => ?_
    · exact ⟨rfl, by omega, fun u u0 u1 => ⟨rfl, by omega, fun v v0 v1 => ⟨two_le, hR _ ⟨(u, v), rfl, by omega, by omega⟩⟩⟩⟩
    · have key : ∀ {ys : List W2.D}, (∀ y ∈ ys, ∃ p : Int × Int, y = rdD p ∧ (0 ≤ p.1 ∧ p.1 < n) ∧ 0 ≤ p.2 ∧ p.2 < n) → ∃ rs : List (Int × Int), ys = rs.map rdD ∧ Good n rs := by
        intro ys
        induction ys with
        | nil => intro _; exact ⟨[], rfl, fun _ h => nomatch h⟩
        | cons y ys ih =>
          intro hy
          obtain ⟨p, rfl, hp⟩ := hy y List.mem_cons_self
          obtain ⟨rs, rfl, hg⟩ := ih fun z hz => hy z (List.mem_cons_of_mem _ hz)
          refine ⟨p :: rs, rfl, fun z hz => ?_⟩
          rcases List.mem_cons.mp hz with e | e
          · subst e; exact hp
          · exact hg z e
      obtain ⟨rs, rfl, hg⟩ := key hy
      rw [List.length_map, List.length_range] at hyl
      refine ⟨two_le, ?_⟩
      exact q n rs (by omega) (by omega) (by omega) hg
end Li

set_option Elab.async false
set_option linter.all false
set_option maxRecDepth 100000
set_option autoImplicit false
/-! W4F: how many pieces, free lots, whole lots, all products. -/
namespace Li
open PySem PySem.Spec PyProof.Rows L2 W2 PySem.W Sm Po
def wb_heads_by : WS :=
  wSeq (wAsg (wLstRg (wR1 (w2 gIxA (wB 0) (wC (.int 0))))) (wGn 2)) (wSeq (wFor (wItems (wN 1)) (wGn 3) (wSeq (wAsg (wCall gSorted (wCons (wLc (wItems (w2 gIxA (w2 gIxA (wB 0) (wC (.int 1))) (wN 3))) (wGn 6) (wYes) (w2 gIxA (wB 2) (wN 6)) [6]) (wNil))) (wGt 2 (wGcons (wGn 4) (wGcons (wGn 5) (wGnil))))) (wAsg (wLc (wItems (wN 2)) (wGn 7) (wYes) (wIfE (wTrB (w2 gEq (wB 7) (wB 5))) (wN 4) (wN 7)) [7]) (wGn 2)))) (wRet (wN 2)))
def wb_pieces_by (wf_heads_by : WF) : WS :=
  wSeq (wPar [2, 3] (wMFz (wFn 2 wf_heads_by (wCons (wN 0) (wCons (wN 1) (wNil)))) (wMOw (wLst (wNil)) (wMNil)))) (wSeq (wFor (wRng1 (w2 gIxA (wB 0) (wC (.int 0)))) (wGn 4) (wIf (wTrB (w2 gEq (w2 gIxA (wB 2) (wN 4)) (wB 4))) (wMutE 3 gAppend (wCons (wCall gTuple (wCons (wLc (wRng1 (w2 gIxA (wB 0) (wC (.int 0)))) (wGn 5) (wTrB (w2 gEq (w2 gIxA (wB 2) (wN 5)) (wB 4))) (wN 5) [5]) (wNil))) (wNil)) (fun _ η Q => Q η)) (wNext))) (wRet (wCall gTuple (wCons (wB 3) (wNil)))))
def wb_piece_count (wf_pieces_by : WF) : WS :=
  wRet (wCall gLenX (wCons (wFn 2 wf_pieces_by (wCons (wN 0) (wCons (wN 1) (wNil)))) (wNil)))
def wb_all_roads : WS :=
  wRet (wTupRg (wR1 (wCall gLenX (wCons (w2 gIxA (wB 0) (wC (.int 1))) (wNil)))))
def wb_road_lots (wf_all_roads : WF) : WS :=
  wSeq (wAsg (wLst (wCons (wTup (wNil)) (wNil))) (wGn 1)) (wSeq (wFor (wItems (wFn 1 wf_all_roads (wCons (wN 0) (wNil)))) (wGn 2) (wAsg (w2 gCat (wB 1) (wLc (wItems (wN 1)) (wGn 3) (wYes) (wTup (wStar (wB 3) (wCons (wN 2) (wNil)))) [3])) (wGn 1))) (wRet (wCall gSorted (wCons (wB 1) (wNil)))))
def wb_is_whole_lot (wf_piece_count wf_all_roads : WF) : WS :=
  wRet (w2 gEq (wFn 2 wf_piece_count (wCons (wN 0) (wCons (wCall gTuple (wCons (wLc (wItems (wFn 1 wf_all_roads (wCons (wN 0) (wNil)))) (wGn 2) (wTrB (w2 (gInA true) (wN 2) (wB 1))) (wN 2) [2]) (wNil))) (wNil)))) (wC (.int 1)))
def wb_is_free_lot (wf_piece_count : WF) : WS :=
  wRet (w2 gEq (wFn 2 wf_piece_count (wCons (wN 0) (wCons (wN 1) (wNil)))) (w2 gSubI (w2 gIxA (wB 0) (wC (.int 0))) (wCall gLenX (wCons (wB 1) (wNil)))))
def wb_free_lots_told (wf_road_lots wf_is_free_lot : WF) : WS :=
  wRet (wLc (wItems (wFn 1 wf_road_lots (wCons (wN 0) (wNil)))) (wGn 1) (wTr (wFn 2 wf_is_free_lot (wCons (wN 0) (wCons (wN 1) (wNil))))) (wN 1) [1])
def wb_whole_lots (wf_road_lots wf_is_whole_lot : WF) : WS :=
  wRet (wLc (wItems (wFn 1 wf_road_lots (wCons (wN 0) (wNil)))) (wGn 1) (wTr (wFn 2 wf_is_whole_lot (wCons (wN 0) (wCons (wN 1) (wNil))))) (wN 1) [1])
def wb_all_products (wf_road_lots wf_product_of : WF) : WS :=
  wRet (wCall gTuple (wCons (wLc (wItems (wFn 1 wf_road_lots (wCons (wN 0) (wNil)))) (wGn 1) (wYes) (wFn 2 wf_product_of (wCons (wN 0) (wCons (wN 1) (wNil)))) [1]) (wNil)))
def wb_whole_products (wf_whole_lots wf_product_of : WF) : WS :=
  wRet (wCall gTuple (wCons (wLc (wItems (wFn 1 wf_whole_lots (wCons (wN 0) (wNil)))) (wGn 1) (wYes) (wFn 2 wf_product_of (wCons (wN 0) (wCons (wN 1) (wNil)))) [1]) (wNil)))
def wb__law_free_lots (wf__law_lots wf__law_many_pieces : WF) : WS :=
  wRet (wLc (wItems (wFn 1 wf__law_lots (wCons (wCall gLenX (wCons (w2 gIxA (wB 0) (wC (.int 1))) (wNil))) (wNil)))) (wGn 1) (wTrB (w2 gEq (wFn 2 wf__law_many_pieces (wCons (wN 0) (wCons (wN 1) (wNil)))) (w2 gSubI (w2 gIxA (wB 0) (wC (.int 0))) (wCall gLenX (wCons (wB 1) (wNil)))))) (wN 1) [1])
def wb__law_whole_lots (wf__law_lots wf__law_many_pieces : WF) : WS :=
  wSeq (wAsg (wCall gLenX (wCons (w2 gIxA (wB 0) (wC (.int 1))) (wNil))) (wGn 1)) (wSeq (wAsgL (wLst (wNil)) 2) (wSeq (wFor (wItems (wFn 1 wf__law_lots (wCons (wN 1) (wNil)))) (wGn 3) (wIf (wTrB (w2 gEq (wFn 2 wf__law_many_pieces (wCons (wN 0) (wCons (wLc (wRng1 (wB 1)) (wGn 4) (wTrB (w2 (gInA true) (wN 4) (wB 3))) (wN 4) [4]) (wNil)))) (wC (.int 1)))) (wMutE 2 gAppend (wCons (wN 3) (wNil)) (fun _ η Q => Q η)) (wNext))) (wFrz 2 (wRet (wN 2)))))
def wb__law_unit : WS :=
  wRet (wIfE (wTrB (w2 gGtI (wB 1) (wC (.int 0)))) (wTup (wCons (wTup (wCons (wCall gTuple (wCons (wLc (wRng2 (wC (.int 1)) (wB 0)) (wGn 2) (wYes) (wCall gInt (wCons (w2 gEq (wB 2) (wB 1)) (wNil))) [2]) (wNil))) (wCons (wC (.int 1)) (wNil)))) (wNil))) (wTup (wNil)))
def wb__law_line (wf__law_sum wf__law_unit : WF) : WS :=
  wSeq (wAsg (w2 gIxA (w2 gIxA (wB 0) (wC (.int 1))) (wN 1)) (wGt 2 (wGcons (wGn 2) (wGcons (wGn 3) (wGnil))))) (wRet (wFn 3 wf__law_sum (wCons (wFn 2 wf__law_unit (wCons (w2 gIxA (wB 0) (wC (.int 0))) (wCons (wN 3) (wNil)))) (wCons (wFn 2 wf__law_unit (wCons (w2 gIxA (wB 0) (wC (.int 0))) (wCons (wN 2) (wNil)))) (wCons (w1 gNeg (wC (.int 1))) (wNil))))))
def wb__law_one : WS :=
  wRet (wTup (wCons (wTup (wCons (w2 gRepT (wTup (wCons (wC (.int 0)) (wNil))) (w2 gSubI (wB 0) (wC (.int 1)))) (wCons (wC (.int 1)) (wNil)))) (wNil)))
def wb__law_product (wf__law_one wf__law_times wf__law_line : WF) : WS :=
  wSeq (wAsg (wFn 1 wf__law_one (wCons (w2 gIxA (wB 0) (wC (.int 0))) (wNil))) (wGn 2)) (wSeq (wFor (wItems (wN 1)) (wGn 3) (wAsg (wFn 2 wf__law_times (wCons (wN 2) (wCons (wFn 2 wf__law_line (wCons (wN 0) (wCons (wN 3) (wNil)))) (wNil)))) (wGn 2))) (wRet (wN 2)))
def rngI (m : Nat) : List Int := (List.range m).map fun i : Nat => (i : Int)
theorem mem_rngI {m : Nat} {r : Int} : r ∈ rngI m ↔ 0 ≤ r ∧ r < m := by
  unfold rngI
  rw [List.mem_map]
  constructor
  · rintro ⟨i, hi, rfl⟩
    have := List.mem_range.mp hi
    omega
  · rintro ⟨h0, h1⟩
    exact ⟨r.toNat, List.mem_range.mpr (by omega), by omega⟩
theorem rngI_len (m : Nat) : (rngI m).length = m := by unfold rngI; rw [List.length_map, List.length_range]
theorem rngI_nodup (m : Nat) : (rngI m).Nodup := by
  unfold rngI
  exact List.nodup_iff_pairwise_ne.mpr (List.pairwise_map.mpr ((List.nodup_iff_pairwise_ne.mp List.nodup_range).imp fun h z => h (by omega)))
theorem rngI_D (m : Nat) : (List.range m).map (fun i : Nat => PyData.int (i : Int)) = (rngI m).map PyData.int := by unfold rngI; rw [List.map_map]; rfl
theorem range_D (m : Nat) : rangeD 0 m = (rngI m).map PyData.int := by rw [rangeD0, rngI_D]
/-! heads are their own heads -/
def Own (n : Nat) (heads : List Int) : Prop := heads.length = n ∧ ∀ v ∈ heads, (0 ≤ v ∧ v < n) ∧ at_ heads v = v
theorem at_in {l : List Int} {c : Int} (h0 : 0 ≤ c) (h1 : c < l.length) : at_ l c ∈ l := by
  have hi : c.toNat < l.length := by omega
  unfold at_
  rw [List.getD_eq_getElem?_getD, List.getElem?_eq_getElem hi]
  exact List.getElem_mem _
theorem hstep_own {n : Nat} {roads : List (Int × Int)} {heads : List Int} {r : Int} (h : Own n heads) (ha : 0 ≤ (road roads r).1 ∧ (road roads r).1 < n) (hb : 0 ≤ (road roads r).2 ∧ (road roads r).2 < n) : Own n (hstep roads heads r) := by
  obtain ⟨hl, hv⟩ := h
  refine ⟨by rw [hstep_len]; exact hl, fun v h => ?_⟩
  have ua := at_in (l := heads) ha.1 (by omega)
  have ub := at_in (l := heads) hb.1 (by omega)
  obtain ⟨x, hx, e⟩ := List.mem_map.mp h
  by_cases c : x = at_ heads (road roads r).1 ∨ x = at_ heads (road roads r).2
  · have e' : v = min (at_ heads (road roads r).1) (at_ heads (road roads r).2) := by rw [← e]; exact if_pos c
    have hm : v = at_ heads (road roads r).1 ∨ v = at_ heads (road roads r).2 := by omega
    have hvm : v ∈ heads := by rcases hm with h | h <;> rw [h] <;> assumption
    obtain ⟨hb, ho⟩ := hv v hvm
    refine ⟨hb, ?_⟩
    rw [at_hstep hb.1 (by omega), ho, if_pos hm, e']
  · have e' : v = x := by rw [← e]; exact if_neg c
    subst e'
    obtain ⟨hb, ho⟩ := hv v hx
    refine ⟨hb, ?_⟩
    rw [at_hstep hb.1 (by omega), ho, if_neg c]
theorem pieces_own {n : Nat} {roads : List (Int × Int)} (hg : Good n roads) {lot : List Int} (hl : ∀ r ∈ lot, 0 ≤ r ∧ r < roads.length) : Own n (piecesS n roads lot) := by
  have key : ∀ (l heads : List Int), (∀ r ∈ l, 0 ≤ r ∧ r < roads.length) → Own n heads → Own n (l.foldl (hstep roads) heads) := by
    intro l
    induction l with
    | nil => intro heads _ h; exact h
    | cons r l ih =>
      intro heads hl h
      obtain ⟨r0, r1⟩ := hl r List.mem_cons_self
      obtain ⟨g1, g2⟩ := hg _ (road_mem r0 r1)
      exact ih _ (fun x hx => hl x (List.mem_cons_of_mem _ hx)) (hstep_own h g1 g2)
  refine key lot _ hl ⟨rngI_len n, fun v hv => ?_⟩
  have := mem_rngI.mp hv
  exact ⟨this, at_range this.1 this.2⟩
def homes (n : Nat) (heads : List Int) : List Int := (rngI n).filter fun c => at_ heads c == c
def pcS (n : Nat) (roads : List (Int × Int)) (lot : List Int) : Nat := (homes n (piecesS n roads lot)).length
theorem mem_homes {n : Nat} {heads : List Int} (h : Own n heads) {x : Int} : x ∈ homes n heads ↔ x ∈ heads := by
  unfold homes
  rw [List.mem_filter, mem_rngI, beq_iff_eq]
  constructor
  · rintro ⟨hx, e⟩
    rw [← e]
    exact at_in hx.1 (by have := h.1; omega)
  · intro hx
    exact h.2 x hx
theorem pc_one {n : Nat} {roads : List (Int × Int)} (hg : Good n roads) {lot : List Int} (hl : ∀ r ∈ lot, 0 ≤ r ∧ r < roads.length) (h : pcS n roads lot = 1) : ∀ x ∈ piecesS n roads lot, ∀ y ∈ piecesS n roads lot, x = y := fun x hx y hy => by
  have o := pieces_own hg hl
  have h1 := (mem_homes o).mpr hx
  have h2 := (mem_homes o).mpr hy
  unfold pcS at h
  match homes n (piecesS n roads lot), h, h1, h2 with
  | [z], _, h1, h2 => rw [List.mem_singleton.mp h1, List.mem_singleton.mp h2]
/-! the law's count -/
theorem dPut_keysX {es : List (W2.D × W2.D)} {ks : List Int} (h : KeysI es ks) (hn : ks.Nodup) (i : Int) (v : W2.D) : ∃ ks', KeysI (dPut es (.int i) v) ks' ∧ ks'.Nodup ∧ ∀ x, x ∈ ks' ↔ x = i ∨ x ∈ ks := by
  have hany : (es.any fun e => PyData.eqv e.1 (.int i)) = decide (i ∈ ks) := by
    have e1 : (es.any fun e => PyData.eqv e.1 (.int i)) = (es.map (·.1)).any fun k => PyData.eqv k (.int i) := by rw [List.any_map]; rfl
    rw [e1, h, any_int]
  unfold dPut
  rw [hany]
  by_cases hm : i ∈ ks
  · rw [if_pos (decide_eq_true hm)]
    refine ⟨ks, ?_, hn, fun x => ⟨.inr, fun hx => ?_⟩⟩
    · unfold KeysI
      rw [List.map_map, ← h]
      refine List.map_congr_left fun e _ => ?_
      show (if PyData.eqv e.1 (.int i) = true then (e.1, v) else e).1 = e.1
      split <;> rfl
    · rcases hx with rfl | hx
      · exact hm
      · exact hx
  · rw [if_neg (by rw [decide_eq_true_eq]; exact hm)]
    refine ⟨ks ++ [i], ?_, ?_, fun x => by rw [List.mem_append, List.mem_singleton, or_comm]⟩
    · unfold KeysI
      rw [List.map_append, h, List.map_append]
      rfl
    · refine List.nodup_append.mpr ⟨hn, List.nodup_cons.mpr ⟨by simp, List.nodup_nil⟩, fun a ha b hb e => ?_⟩
      rw [List.mem_singleton] at hb
      subst hb
      subst e
      exact hm ha
theorem merge_keysX (v : W2.D) : ∀ (l : List Int) (es : List (W2.D × W2.D)) (ks : List Int), KeysI es ks → ks.Nodup → ∃ ks', KeysI ((l.map fun i => ((.inl i : L2.Key), v)).foldl (fun acc kv => dPut acc (kD kv.1) kv.2) es) ks' ∧ ks'.Nodup ∧ ∀ x, x ∈ ks' ↔ x ∈ l ∨ x ∈ ks
  | [], es, ks, h, hn => ⟨ks, h, hn, fun x => ⟨.inr, fun hx => hx.resolve_left (fun z => nomatch z)⟩⟩
  | i :: l, es, ks, h, hn => by
    obtain ⟨k1, h1, n1, m1⟩ := dPut_keysX h hn i v
    obtain ⟨k2, h2, n2, m2⟩ := merge_keysX v l _ k1 h1 n1
    refine ⟨k2, h2, n2, fun x => ?_⟩
    rw [m2, m1, List.mem_cons]
    constructor
    · rintro (h | h | h)
      · exact .inl (.inr h)
      · exact .inl (.inl h)
      · exact .inr h
    · rintro ((h | h) | h)
      · exact .inr (.inl h)
      · exact .inl h
      · exact .inr (.inr h)
def wf_manyX : WF := fun ds Q => ∃ (n : Nat) (roads : List (Int × Int)) (lot : List Int) (d : W2.D), ds = [frD n roads, d] ∧ (d = lotD lot ∨ d = .list (lot.map .int)) ∧ n ≤ 1000 ∧ Good n roads ∧ (∀ r ∈ lot, 0 ≤ r ∧ r < roads.length) ∧ Q (.int (pcS n roads lot : Nat))
theorem hw_manyX (ds : List W2.D) (Q : W2.D → Prop) (_ : ds.length = 2) (h : wf_manyX ds Q) : wb__law_many_pieces wf_pieces { nx := fun _ => Q .none, rt := Q } (startE ["frame", "lot", "head"] (ds.map .fz)) := by
  obtain ⟨n, roads, lot, d, rfl, hd, hn, hg, hl, q⟩ := h
  refine ⟨rfl, n, roads, lot, d, rfl, hd, hn, hg, hl, ?_⟩
  show lcGo _ _ _ _ ((piecesS n roads lot).map PyData.int) [] _
  refine lc_fm PyData.int (fun i => some (.tuple [.int i, .int 0])) (piecesS n roads lot) (fun x hx R hR => ⟨two_le, hR⟩) (le_line (by rw [pieces_len]; omega)) ?_
  rw [fm_map]
  refine .inl ?_
  refine ⟨_, pairsK_int (.int 0) _, ?_⟩
  obtain ⟨ks, h1, n1, m1⟩ := merge_keysX (.int 0) (piecesS n roads lot) [] [] rfl List.nodup_nil
  have o := pieces_own hg hl
  have hp : ks.Perm (homes n (piecesS n roads lot)) := (List.perm_ext_iff_of_nodup n1 ((rngI_nodup n).filter _)).mpr fun x => by
    rw [m1]
    exact ⟨fun h => (mem_homes o).mpr (h.resolve_right (fun z => nomatch z)), fun h => .inl ((mem_homes o).mp h)⟩
  have hl1 : (mergeD (List.map (fun i => ((.inl i : L2.Key), PyData.int 0)) (piecesS n roads lot))).length = pcS n roads lot := by
    have := congrArg List.length h1
    rw [List.length_map, List.length_map] at this
    exact Eq.trans this hp.length_eq
  show Q (.int ((_ : Nat) : Int))
  rw [hl1]
  exact q
/-! the program's pieces -/
theorem sort_two (a b : Int) : W2.sortI [a, b] = [min a b, max a b] := by
  refine List.Perm.eq_of_pairwise (le := fun a b : Int => a ≤ b) (fun a b _ _ h1 h2 => by omega) (W2.sortI_le _) ?_ ((W2.sortI_perm _).trans ?_)
  · exact List.pairwise_cons.mpr ⟨fun q hq => by rw [List.mem_singleton] at hq; subst hq; omega, List.pairwise_singleton _ _⟩
  · by_cases h : a ≤ b
    · rw [show min a b = a by omega, show max a b = b by omega]
    · rw [show min a b = b by omega, show max a b = a by omega]
      exact List.Perm.swap _ _ _
def wf_heads : WF := fun ds Q => ∃ (n : Nat) (roads : List (Int × Int)) (lot : List Int), ds = [frD n roads, lotD lot] ∧ n ≤ 1000 ∧ Good n roads ∧ (∀ r ∈ lot, 0 ≤ r ∧ r < roads.length) ∧ Q (.list ((piecesS n roads lot).map .int))
theorem hw_heads (ds : List W2.D) (Q : W2.D → Prop) (_ : ds.length = 2) (h : wf_heads ds Q) : wb_heads_by { nx := fun _ => Q .none, rt := Q } (startE ["frame", "lot", "heads", "road", "low", "high", "crossing", "head"] (ds.map .fz)) := by
  obtain ⟨n, roads, lot, rfl, hn, hg, hl, q⟩ := h
  refine ⟨_, rfl, ⟨by omega, by omega, by omega, by omega, by omega⟩, ?_⟩
  rw [show ((n : Int) - 0).toNat = n by omega, range_D]
  show forGo _ _ _ (lot.map PyData.int) [.fz (frD n roads), .fz (lotD lot), .fz (.list ((rngI n).map .int)), .un, .un, .un, .un, .un]
  refine for_fold PyData.int (fun heads η => heads.length = n ∧ ∃ a b c e f, η = [.fz (frD n roads), .fz (lotD lot), .fz (.list (heads.map .int)), a, b, c, e, f]) (hstep roads) lot (rngI n) _ ⟨rngI_len n, _, _, _, _, _, rfl⟩ (fun r hr heads η hI Kc hK => ?_) (fun η hI => ?_)
  · obtain ⟨hlen, a, b, c, e, f, rfl⟩ := hI
    obtain ⟨r0, r1⟩ := hl r hr
    obtain ⟨⟨a0, a1⟩, b0, b1⟩ := hg _ (road_mem r0 r1)
    refine ⟨_, rfl, _, road_at r0 r1, ?_⟩
    show lcGo _ _ _ _ ([(road roads r).1, (road roads r).2].map PyData.int) [] _
    refine lc_fm PyData.int (fun c => some (.int (at_ heads c))) [(road roads r).1, (road roads r).2] (fun x hx R hR => ?_) (le_line (show 2 ≤ 1000000 by decide)) ?_
    · have hx' : 0 ≤ x ∧ x < heads.length := by
        simp only [List.mem_cons, List.not_mem_nil, or_false] at hx
        rcases hx with rfl | rfl
        · omega
        · omega
      exact ⟨_, at_row (r := heads) hx'.1 hx'.2, hR⟩
    · have e2 : List.filterMap (fun c => some (PyData.int (at_ heads c))) [(road roads r).1, (road roads r).2] = [at_ heads (road roads r).1, at_ heads (road roads r).2].map PyData.int := rfl
      rw [e2]
      refine ⟨lay_ints _, sortOk_int _, ?_⟩
      rw [sortD_int, sort_two]
      refine ⟨rfl, ?_⟩
      show lcGo _ _ _ _ (heads.map PyData.int) [] _
      refine lc_fm PyData.int (fun h => some (.int (if h = at_ heads (road roads r).1 ∨ h = at_ heads (road roads r).2 then min (at_ heads (road roads r).1) (at_ heads (road roads r).2) else h))) heads (fun x hx R hR => ?_) (le_line (by omega)) ?_
      · refine ⟨eqOk_of rfl rfl, ?_⟩
        show (if (x == max (at_ heads (road roads r).1) (at_ heads (road roads r).2)) = true then _ else _)
        by_cases hm : x = max (at_ heads (road roads r).1) (at_ heads (road roads r).2)
        · refine ifT (beq_iff_eq.mpr hm) ?_
          rw [if_pos (by omega)] at hR
          exact hR
        · refine ifF (beq_eq_false_iff_ne.mpr hm) ?_
          have e3 : (if x = at_ heads (road roads r).1 ∨ x = at_ heads (road roads r).2 then min (at_ heads (road roads r).1) (at_ heads (road roads r).2) else x) = x := by
            split <;> omega
          rw [e3] at hR
          exact hR
      · rw [fm_map]
        have e2 : heads.map (fun h => PyData.int (if h = at_ heads (road roads r).1 ∨ h = at_ heads (road roads r).2 then min (at_ heads (road roads r).1) (at_ heads (road roads r).2) else h)) = (hstep roads heads r).map .int := by unfold hstep; rw [List.map_map]; rfl
        rw [e2]
        exact hK _ ⟨by rw [hstep_len]; exact hlen, _, _, _, _, _, rfl⟩
  · obtain ⟨hlen, a, b, c, e, f, rfl⟩ := hI
    exact q
def wf_piecesby : WF := fun ds Q => ∃ (n : Nat) (roads : List (Int × Int)) (lot : List Int), ds = [frD n roads, lotD lot] ∧ n ≤ 1000 ∧ Good n roads ∧ (∀ r ∈ lot, 0 ≤ r ∧ r < roads.length) ∧ ∀ vs : List W2.D, vs.length = pcS n roads lot → Q (.tuple vs)
theorem homes_fold (heads : List Int) : ∀ (l : List Int) (k : Nat), l.foldl (fun k c => if at_ heads c = c then k + 1 else k) k = k + (l.filter fun c => at_ heads c == c).length
  | [], k => rfl
  | c :: l, k => by
    rw [List.foldl_cons, homes_fold heads l, List.filter_cons]
    by_cases h : at_ heads c = c
    · rw [if_pos h, if_pos (beq_iff_eq.mpr h), List.length_cons]; omega
    · rw [if_neg h, if_neg (fun z => h (beq_iff_eq.mp z))]
theorem hw_piecesby (ds : List W2.D) (Q : W2.D → Prop) (_ : ds.length = 2) (h : wf_piecesby ds Q) : wb_pieces_by wf_heads { nx := fun _ => Q .none, rt := Q } (startE ["frame", "lot", "heads", "found", "first", "crossing"] (ds.map .fz)) := by
  obtain ⟨n, roads, lot, rfl, hn, hg, hl, q⟩ := h
  have pl := pieces_len n roads lot
  refine ⟨rfl, n, roads, lot, rfl, hn, hg, hl, Nat.zero_le _, rfl, ?_⟩
  refine ⟨_, rfl, ⟨by omega, by omega⟩, ?_⟩
  rw [Int.toNat_natCast, range_D]
  refine for_foldW PyData.int (fun (k : Nat) η => ∃ (vs : List W2.D) (a b : W2.Slot), vs.length = k ∧ η = [.fz (frD n roads), .fz (lotD lot), .fz (.list ((piecesS n roads lot).map .int)), .ow (.list vs), a, b]) (fun k c => if at_ (piecesS n roads lot) c = c then k + 1 else k) (fun k => k) (fun _ => 1) (fun k c => by show (if at_ (piecesS n roads lot) c = c then k + 1 else k) ≤ k + 1; split <;> omega) (B := 1000) (rngI n) 0 _ ⟨[], _, _, rfl, rfl⟩ (by rw [sum_one, rngI_len]; omega) (fun c hc k η hI hB Kc hK => ?_) (fun η hI => ?_)
  · obtain ⟨vs, a, b, hk, rfl⟩ := hI
    have hB' : k + 1 ≤ 1000 := hB
    obtain ⟨c0, c1⟩ := mem_rngI.mp hc
    refine ⟨_, at_row (r := piecesS n roads lot) c0 (by omega), eqOk_of rfl rfl, ?_⟩
    show (if (at_ (piecesS n roads lot) c == c) = true then _ else _)
    by_cases h : at_ (piecesS n roads lot) c = c
    · refine ifT (beq_iff_eq.mpr h) ?_
      rw [if_pos h] at hK
      refine ⟨rfl, _, rfl, ⟨by omega, by omega⟩, ?_⟩
      rw [Int.toNat_natCast, range_D]
      refine lc_fm PyData.int (fun x => if (at_ (piecesS n roads lot) x == c) = true then some (.int x) else none) (rngI n) (fun x hx R hR => ?_) (le_line (by rw [rngI_len]; omega)) ?_
      · obtain ⟨x0, x1⟩ := mem_rngI.mp hx
        refine ⟨_, at_row (r := piecesS n roads lot) x0 (by omega), eqOk_of rfl rfl, ?_⟩
        exact optR hR
      · refine ⟨by rw [hk, sizeLine_eq]; omega, ?_⟩
        exact hK _ ⟨_, _, _, by rw [List.length_append, hk]; rfl, rfl⟩
    · refine ifF (beq_eq_false_iff_ne.mpr h) ?_
      rw [if_neg h] at hK
      exact hK _ ⟨_, _, _, hk, rfl⟩
  · obtain ⟨vs, a, b, hk, rfl⟩ := hI
    rw [homes_fold, Nat.zero_add] at hk
    exact q vs hk
def wf_pcount : WF := fun ds Q => ∃ (n : Nat) (roads : List (Int × Int)) (lot : List Int), ds = [frD n roads, lotD lot] ∧ n ≤ 1000 ∧ Good n roads ∧ (∀ r ∈ lot, 0 ≤ r ∧ r < roads.length) ∧ Q (.int (pcS n roads lot : Nat))
theorem hw_pcount (ds : List W2.D) (Q : W2.D → Prop) (_ : ds.length = 2) (h : wf_pcount ds Q) : wb_piece_count wf_piecesby { nx := fun _ => Q .none, rt := Q } (startE ["frame", "lot"] (ds.map .fz)) := by
  obtain ⟨n, roads, lot, rfl, hn, hg, hl, q⟩ := h
  refine ⟨rfl, n, roads, lot, rfl, hn, hg, hl, fun vs hv => ?_⟩
  show Q (.int (vs.length : Nat))
  rw [hv]
  exact q
end Li

set_option Elab.async false
set_option linter.all false
set_option maxRecDepth 100000
set_option autoImplicit false
/-! W4G: lots of roads, free, whole lots; all products; the law's own lines and products. -/
namespace Li
open PySem PySem.Spec PyProof.Rows L2 W2 PySem.W Sm Po

theorem fm_filter {α : Type} (e : α → W2.D) (p : α → Bool) : ∀ l : List α, l.filterMap (fun x => if p x = true then some (e x) else none) = (l.filter p).map e
  | [] => rfl
  | x :: r => by
    rw [List.filterMap_cons, List.filter_cons]
    cases h : p x with
    | true => show e x :: _ = _; rw [fm_filter e p r]; rfl
    | false => exact fm_filter e p r
theorem frees_len (m : Nat) : (lotsS m).length = 2 ^ m := by unfold lotsS; rw [List.length_mergeSort, lotsU_len]
theorem mem_lotsS {m : Nat} {l : List Int} (h : l ∈ lotsS m) : SS l ∧ ∀ r ∈ l, 0 ≤ r ∧ r < m := (mem_lotsU m l).mp (List.mem_mergeSort.mp h)
theorem lotsS_short {m : Nat} {l : List Int} (h : l ∈ lotsS m) : l.length ≤ m := lotsU_short m l (List.mem_mergeSort.mp h)
theorem lots_le {m : Nat} (hm : m ≤ 10) : (lotsS m).length ≤ 1024 := by
  rw [frees_len]
  exact Nat.le_trans (Nat.pow_le_pow_right (by decide) hm) (by decide)
def FrOk (n : Nat) (roads : List (Int × Int)) : Prop := 1 ≤ n ∧ n ≤ 1000 ∧ roads.length ≤ 10 ∧ Good n roads
def wf_allr : WF := fun ds Q => ∃ (n : Nat) (roads : List (Int × Int)), ds = [frD n roads] ∧ FrOk n roads ∧ Q (lotD (rngI roads.length))
theorem hw_allr (ds : List W2.D) (Q : W2.D → Prop) (_ : ds.length = 1) (h : wf_allr ds Q) : wb_all_roads { nx := fun _ => Q .none, rt := Q } (startE ["frame"] (ds.map .fz)) := by
  obtain ⟨n, roads, rfl, ⟨h1, hn, hm, hg⟩, q⟩ := h
  have go : ∀ m : Nat, m = roads.length → wRet (wTupRg (wR1 (wC (.int m)))) { nx := fun _ => Q .none, rt := Q } [] := fun m e => by
    subst e
    refine ⟨⟨by omega, by omega, by omega, by omega, by omega⟩, ?_⟩
    rw [show ((roads.length : Int) - 0).toNat = roads.length by omega, range_D]
    exact q
  exact ⟨_, rfl, go _ (List.length_map _)⟩

def wf_rlots : WF := fun ds Q => ∃ (n : Nat) (roads : List (Int × Int)), ds = [frD n roads] ∧ FrOk n roads ∧ Q (.list ((lotsS roads.length).map lotD))
theorem hw_rlots (ds : List W2.D) (Q : W2.D → Prop) (_ : ds.length = 1) (h : wf_rlots ds Q) : wb_road_lots wf_allr { nx := fun _ => Q .none, rt := Q } (startE ["frame", "found", "road", "lot"] (ds.map .fz)) := by
  obtain ⟨n, roads, rfl, fo, q⟩ := h
  have hm := fo.2.2.1
  refine ⟨Nat.zero_le _, one_le, rfl, n, roads, rfl, fo, ?_⟩
  show forGo _ _ _ ((rngI roads.length).map PyData.int) _
  rw [← rngI_D]
  refine for_ix _ (fun i η => ∃ a b, η = [.fz (frD n roads), .fz (.list ((lotsU i).map lotD)), a, b]) (fun i hi η hI Kc hK => ?_) (fun η hI => ?_) ⟨.un, .un, rfl⟩
  · obtain ⟨a, b, rfl⟩ := hI
    have hp : (lotsU i).length ≤ 1024 := by
      rw [lotsU_len]
      exact Nat.le_trans (Nat.pow_le_pow_right (by decide) (show i ≤ 10 by omega)) (by decide)
    show lcGo _ _ _ _ ((lotsU i).map lotD) [] _
    refine lc_fm lotD (fun l => some (lotD (l ++ [(i : Int)]))) (lotsU i) (fun l hl R hR => ?_) (Nat.le_trans hp (by rw [sizeLine_eq]; decide)) ?_
    · have := lotsU_short i l hl
      refine ⟨?_, ?_⟩
      · show (l.map PyData.int ++ [PyData.int (i : Int)]).length ≤ sizeLine
        rw [List.length_append, List.length_map]
        exact le_line (by show _ + 1 ≤ _; omega)
      · show R (some (.tuple (l.map PyData.int ++ [.int (i : Int)])))
        have e : lotD (l ++ [(i : Int)]) = .tuple (l.map PyData.int ++ [.int (i : Int)]) := by
          unfold lotD
          rw [List.map_append]; rfl
        rw [← e]
        exact hR
    · rw [fm_map]
      have e : (lotsU i).map (fun l => lotD (l ++ [(i : Int)])) = ((lotsU i).map fun l => l ++ [(i : Int)]).map lotD := by rw [List.map_map]; rfl
      rw [e]
      refine ⟨?_, ?_⟩
      · simp only [List.length_map]
        rw [sizeLine_eq]
        omega
      · rw [← List.map_append]
        exact hK _ ⟨_, _, rfl⟩
  · obtain ⟨a, b, rfl⟩ := hI
    refine ⟨layAll_map lay_lot _, sortOk_lot _, ?_⟩
    rw [sortD_lot]
    exact q
def InM (m : Nat) (lot : List Int) : Prop := ∀ r ∈ lot, 0 ≤ r ∧ r < m
def restS (m : Nat) (lot : List Int) : List Int := (rngI m).filter fun r => !decide (r ∈ lot)
theorem rest_in (m : Nat) (lot : List Int) : InM m (restS m lot) := fun _ h => mem_rngI.mp (List.mem_filter.mp h).1
def isWh (n : Nat) (roads : List (Int × Int)) (lot : List Int) : Bool := ((pcS n roads (restS roads.length lot) : Nat) : Int) == 1
def isFr (n : Nat) (roads : List (Int × Int)) (lot : List Int) : Bool := ((pcS n roads lot : Nat) : Int) == (n : Int) - (lot.length : Nat)
def frees (n : Nat) (roads : List (Int × Int)) : List (List Int) := (lotsS roads.length).filter (isFr n roads)
def wholes (n : Nat) (roads : List (Int × Int)) : List (List Int) := (lotsS roads.length).filter (isWh n roads)
def wf_isw : WF := fun ds Q => ∃ (n : Nat) (roads : List (Int × Int)) (lot : List Int), ds = [frD n roads, lotD lot] ∧ FrOk n roads ∧ Q (.bool (isWh n roads lot))
theorem hw_isw (ds : List W2.D) (Q : W2.D → Prop) (_ : ds.length = 2) (h : wf_isw ds Q) : wb_is_whole_lot wf_pcount wf_allr { nx := fun _ => Q .none, rt := Q } (startE ["frame", "lot", "road"] (ds.map .fz)) := by
  obtain ⟨n, roads, lot, rfl, fo, q⟩ := h
  refine ⟨rfl, n, roads, rfl, fo, ?_⟩
  show lcGo _ _ _ _ ((rngI roads.length).map PyData.int) [] _
  refine lc_fm PyData.int (fun x => if (!decide (x ∈ lot)) = true then some (.int x) else none) (rngI roads.length) (fun x hx R hR => ?_) (le_line (by rw [rngI_len]; have := fo.2.2.1; omega)) ?_
  · refine ⟨rfl, shaped_lot lot, ?_⟩
    show (if (!(lot.map PyData.int).any fun z => PyData.eqv z (.int x)) = true then R (some (.int x)) else R none)
    rw [any_int]
    exact optR hR
  · rw [fm_filter PyData.int fun x => !decide (x ∈ lot)]
    exact ⟨rfl, n, roads, restS roads.length lot, rfl, fo.2.1, fo.2.2.2, rest_in _ _, eqOk_of rfl rfl, q⟩
def wf_isf : WF := fun ds Q => ∃ (n : Nat) (roads : List (Int × Int)) (lot : List Int), ds = [frD n roads, lotD lot] ∧ FrOk n roads ∧ InM roads.length lot ∧ Q (.bool (isFr n roads lot))
theorem hw_isf (ds : List W2.D) (Q : W2.D → Prop) (_ : ds.length = 2) (h : wf_isf ds Q) : wb_is_free_lot wf_pcount { nx := fun _ => Q .none, rt := Q } (startE ["frame", "lot"] (ds.map .fz)) := by
  obtain ⟨n, roads, lot, rfl, fo, hi, q⟩ := h
  refine ⟨rfl, n, roads, lot, rfl, fo.2.1, fo.2.2.2, hi, _, rfl, eqOk_of rfl rfl, ?_⟩
  show Q (.bool (((pcS n roads lot : Nat) : Int) == (n : Int) - ((lot.map PyData.int).length : Nat)))
  rw [List.length_map]
  exact q
def wf_frees : WF := fun ds Q => ∃ (n : Nat) (roads : List (Int × Int)), ds = [frD n roads] ∧ FrOk n roads ∧ Q (.list ((frees n roads).map lotD))
theorem hw_frees (ds : List W2.D) (Q : W2.D → Prop) (_ : ds.length = 1) (h : wf_frees ds Q) : wb_free_lots_told wf_rlots wf_isf { nx := fun _ => Q .none, rt := Q } (startE ["frame", "lot"] (ds.map .fz)) := by
  obtain ⟨n, roads, rfl, fo, q⟩ := h
  refine ⟨rfl, n, roads, rfl, fo, ?_⟩
  show lcGo _ _ _ _ ((lotsS roads.length).map lotD) [] _
  refine lc_fm lotD (fun l => if isFr n roads l = true then some (lotD l) else none) (lotsS roads.length) (fun l hl R hR => ?_) (le_line (by have := lots_le fo.2.2.1; omega)) ?_
  · exact ⟨rfl, n, roads, l, rfl, fo, (mem_lotsS hl).2, _, rfl, optR hR⟩
  · rw [fm_filter]
    exact q
def wf_wholes : WF := fun ds Q => ∃ (n : Nat) (roads : List (Int × Int)), ds = [frD n roads] ∧ FrOk n roads ∧ Q (.list ((wholes n roads).map lotD))
theorem hw_wholes (ds : List W2.D) (Q : W2.D → Prop) (_ : ds.length = 1) (h : wf_wholes ds Q) : wb_whole_lots wf_rlots wf_isw { nx := fun _ => Q .none, rt := Q } (startE ["frame", "lot"] (ds.map .fz)) := by
  obtain ⟨n, roads, rfl, fo, q⟩ := h
  refine ⟨rfl, n, roads, rfl, fo, ?_⟩
  show lcGo _ _ _ _ ((lotsS roads.length).map lotD) [] _
  refine lc_fm lotD (fun l => if isWh n roads l = true then some (lotD l) else none) (lotsS roads.length) (fun l hl R hR => ?_) (le_line (by have := lots_le fo.2.2.1; omega)) ?_
  · exact ⟨rfl, n, roads, l, rfl, fo, _, rfl, optR hR⟩
  · rw [fm_filter]
    exact q
def prodsS (n : Nat) (roads : List (Int × Int)) (ls : List (List Int)) : List W2.D := ls.map fun l => rsD (prodS (n - 1) roads l)
def wf_allp : WF := fun ds Q => ∃ (n : Nat) (roads : List (Int × Int)), ds = [frD n roads] ∧ FrOk n roads ∧ Q (.tuple (prodsS n roads (lotsS roads.length)))
theorem toProd {n : Nat} {roads : List (Int × Int)} {l : List Int} (fo : FrOk n roads) (hl : l ∈ lotsS roads.length) {Q : W2.D → Prop} (q : Q (rsD (prodS (n - 1) roads l))) : wf_prod [frD n roads, lotD l] Q :=
  ⟨n, roads, l, rfl, fo.1, fo.2.1, by have := lotsS_short hl; have := fo.2.2.1; omega, (mem_lotsS hl).2, q⟩
theorem hw_allp (ds : List W2.D) (Q : W2.D → Prop) (_ : ds.length = 1) (h : wf_allp ds Q) : wb_all_products wf_rlots wf_prod { nx := fun _ => Q .none, rt := Q } (startE ["frame", "lot"] (ds.map .fz)) := by
  obtain ⟨n, roads, rfl, fo, q⟩ := h
  refine ⟨rfl, n, roads, rfl, fo, ?_⟩
  show lcGo _ _ _ _ ((lotsS roads.length).map lotD) [] _
  refine lc_fm lotD (fun l => some (rsD (prodS (n - 1) roads l))) (lotsS roads.length) (fun l hl R hR => ⟨rfl, toProd fo hl hR⟩) (le_line (by have := lots_le fo.2.2.1; omega)) ?_
  rw [fm_map]
  exact q
def wf_wholep : WF := fun ds Q => ∃ (n : Nat) (roads : List (Int × Int)), ds = [frD n roads] ∧ FrOk n roads ∧ Q (.tuple (prodsS n roads (wholes n roads)))
theorem wholes_le {n : Nat} {roads : List (Int × Int)} (fo : FrOk n roads) : (wholes n roads).length ≤ 1024 := Nat.le_trans (List.length_filter_le _ _) (lots_le fo.2.2.1)
theorem hw_wholep (ds : List W2.D) (Q : W2.D → Prop) (_ : ds.length = 1) (h : wf_wholep ds Q) : wb_whole_products wf_wholes wf_prod { nx := fun _ => Q .none, rt := Q } (startE ["frame", "lot"] (ds.map .fz)) := by
  obtain ⟨n, roads, rfl, fo, q⟩ := h
  refine ⟨rfl, n, roads, rfl, fo, ?_⟩
  show lcGo _ _ _ _ ((wholes n roads).map lotD) [] _
  refine lc_fm lotD (fun l => some (rsD (prodS (n - 1) roads l))) (wholes n roads) (fun l hl R hR => ⟨rfl, toProd fo (List.mem_filter.mp hl).1 hR⟩) (le_line (by have := wholes_le fo; omega)) ?_
  rw [fm_map]
  exact q
/-! the law's own -/
theorem hw_lfrees (ds : List W2.D) (Q : W2.D → Prop) (_ : ds.length = 1) (h : wf_frees ds Q) : wb__law_free_lots wf_lots wf_manyX { nx := fun _ => Q .none, rt := Q } (startE ["frame", "lot"] (ds.map .fz)) := by
  obtain ⟨n, roads, rfl, fo, q⟩ := h
  refine ⟨_, rfl, rfl, roads.length, congrArg (fun k : Nat => [PyData.int (k : Int)]) (List.length_map _), fo.2.2.1, ?_⟩
  show lcGo _ _ _ _ ((lotsS roads.length).map lotD) [] _
  refine lc_fm lotD (fun l => if isFr n roads l = true then some (lotD l) else none) (lotsS roads.length) (fun l hl R hR => ?_) (le_line (by have := lots_le fo.2.2.1; omega)) ?_
  · refine ⟨rfl, n, roads, l, _, rfl, .inl rfl, fo.2.1, fo.2.2.2, (mem_lotsS hl).2, _, rfl, eqOk_of rfl rfl, ?_⟩
    show (if (((pcS n roads l : Nat) : Int) == (n : Int) - ((l.map PyData.int).length : Nat)) = true then R (some (lotD l)) else R none)
    rw [List.length_map]
    exact optR hR
  · rw [fm_filter]
    exact q
theorem hw_lwholes (ds : List W2.D) (Q : W2.D → Prop) (_ : ds.length = 1) (h : wf_wholes ds Q) : wb__law_whole_lots wf_lots wf_manyX { nx := fun _ => Q .none, rt := Q } (startE ["frame", "m", "found", "lot", "r"] (ds.map .fz)) := by
  obtain ⟨n, roads, rfl, fo, q⟩ := h
  have hm := fo.2.2.1
  have go : ∀ m : Nat, m = roads.length → wSeq (wAsgL (wLst (wNil)) 2) (wSeq (wFor (wItems (wFn 1 wf_lots (wCons (wN 1) (wNil)))) (wGn 3) (wIf (wTrB (w2 gEq (wFn 2 wf_manyX (wCons (wN 0) (wCons (wLc (wRng1 (wB 1)) (wGn 4) (wTrB (w2 (gInA true) (wN 4) (wB 3))) (wN 4) [4]) (wNil)))) (wC (.int 1)))) (wMutE 2 gAppend (wCons (wN 3) (wNil)) (fun _ η Q => Q η)) (wNext))) (wFrz 2 (wRet (wN 2)))) { nx := fun _ => Q .none, rt := Q } [.fz (frD n roads), .fz (.int m), .un, .un, .un] := fun m e => by
    subst e
    refine ⟨Nat.zero_le _, rfl, roads.length, rfl, hm, ?_⟩
    show forGo _ _ _ ((lotsS roads.length).map lotD) _
    refine for_foldW lotD (fun (ls : List (List Int)) η => ∃ a b : W2.Slot, η = [.fz (frD n roads), .fz (.int roads.length), .ow (.list (ls.map lotD)), a, b]) (fun ls l => ls ++ [l].filter (isWh n roads)) List.length (fun _ => 1) (fun ls l => by
      show (ls ++ [l].filter (isWh n roads)).length ≤ ls.length + 1
      rw [List.length_append]
      have := List.length_filter_le (isWh n roads) [l]
      rw [List.length_singleton] at this
      omega) (B := 1024) (lotsS roads.length) [] _ ⟨_, _, rfl⟩ (by rw [sum_one]; have := lots_le hm; show 0 + _ ≤ _; omega) (fun l hl ls η hI hB Kc hK => ?_) (fun η hI => ?_)
    · obtain ⟨a, b, rfl⟩ := hI
      have hB' : ls.length + 1 ≤ 1024 := hB
      refine ⟨⟨by omega, by omega⟩, ?_⟩
      rw [Int.toNat_natCast, range_D]
      refine lc_fm PyData.int (fun x => if (!decide (x ∈ l)) = true then some (.int x) else none) (rngI roads.length) (fun x hx R hR => ?_) (le_line (by rw [rngI_len]; omega)) ?_
      · refine ⟨rfl, shaped_lot l, ?_⟩
        show (if (!(l.map PyData.int).any fun z => PyData.eqv z (.int x)) = true then R (some (.int x)) else R none)
        rw [any_int]
        exact optR hR
      · rw [fm_filter PyData.int fun x => !decide (x ∈ l)]
        refine ⟨rfl, n, roads, restS roads.length l, _, rfl, .inr rfl, fo.2.1, fo.2.2.2, rest_in _ _, eqOk_of rfl rfl, ?_⟩
        show (if isWh n roads l = true then _ else _)
        by_cases h : isWh n roads l = true
        · refine ifT h ?_
          rw [List.filter_cons, if_pos h] at hK
          refine ⟨rfl, by rw [List.length_map, sizeLine_eq]; omega, ?_⟩
          have e : ls.map lotD ++ [lotD l] = (ls ++ [l]).map lotD := by rw [List.map_append]; rfl
          show Kc [.fz (frD n roads), .fz (.int roads.length), .ow (.list (ls.map lotD ++ [lotD l])), .fz (lotD l), b]
          rw [e]
          exact hK _ ⟨_, _, rfl⟩
        · refine ifF (by simpa using h) ?_
          rw [List.filter_cons, if_neg h, List.filter_nil, List.append_nil] at hK
          exact hK _ ⟨_, _, rfl⟩
    · obtain ⟨a, b, rfl⟩ := hI
      have key : ∀ (L ls : List (List Int)), L.foldl (fun ls l => ls ++ [l].filter (isWh n roads)) ls = ls ++ L.filter (isWh n roads) := by
        intro L
        induction L with
        | nil => intro ls; rw [List.foldl_nil, List.filter_nil, List.append_nil]
        | cons x L ih =>
          intro ls
          rw [List.foldl_cons, ih, List.append_assoc, ← List.filter_append]
          rfl
      rw [key, List.nil_append]
      exact q
  exact ⟨_, rfl, go _ (List.length_map _)⟩
def uS (m : Nat) (c : Int) : List LI := if 0 < c then [(unitP m c, 1)] else []
theorem u_keys (m : Nat) (c : Int) : Keys (uS m c) := by
  unfold uS
  split
  · exact List.nodup_cons.mpr ⟨by simp, List.nodup_nil⟩
  · exact keys_nil
theorem u_len (m : Nat) (c : Int) : (uS m c).length ≤ 1 := by
  unfold uS
  split
  · exact Nat.le_refl _
  · exact Nat.zero_le _
theorem u_ev {m : Nat} {c : Int} (h : 0 ≤ c) (f : List Int → Int) : ev f (uS m c) = if c = 0 then 0 else f (unitP m c) := by
  unfold uS
  by_cases z : c = 0
  · subst z; rfl
  · rw [if_pos (by omega), if_neg z, ev_cons, ev_nil, Int.one_mul, Int.add_zero]
theorem lline_is {m : Nat} {r : Int × Int} (ha : 0 ≤ r.1) (hb : 0 ≤ r.2) : psum (uS m r.2) (uS m r.1) (-1) = lineS m r := by
  refine Nf.ext (psum_nf (u_keys _ _)) (line_nf _ _) fun f => ?_
  rw [psum_ev (u_keys _ _), line_ev, u_ev ha, u_ev hb]
  omega
def wf_lunit : WF := fun ds Q => ∃ (n : Nat) (c : Int), ds = [.int n, .int c] ∧ 1 ≤ n ∧ n ≤ 1000 ∧ Q (rsD (uS (n - 1) c))
theorem hw_lunit (ds : List W2.D) (Q : W2.D → Prop) (_ : ds.length = 2) (h : wf_lunit ds Q) : wb__law_unit { nx := fun _ => Q .none, rt := Q } (startE ["n", "c", "k"] (ds.map .fz)) := by
  obtain ⟨n, c, rfl, h1, hn, q⟩ := h
  show (if decide (0 < c) = true then _ else _)
  by_cases h : 0 < c
  · refine ifT (decide_eq_true h) ?_
    have e : uS (n - 1) c = [(unitP (n - 1) c, 1)] := if_pos h
    rw [e] at q
    refine ⟨⟨by omega, by omega, by omega, by omega⟩, ?_⟩
    show lcGo _ _ _ _ (rangeD 1 ((n : Int) - 1).toNat) [] _
    have e : ((n : Int) - 1).toNat = n - 1 := by omega
    rw [e]
    unfold rangeD
    refine lc_fm (fun k : Nat => PyData.int (1 + (k : Int))) (fun i : Nat => some (.int (if 1 + (i : Int) = c then 1 else 0))) (List.range (n - 1)) (fun i hi R hR => ?_) (le_line (by rw [List.length_range]; omega)) ?_
    · refine ⟨eqOk_of rfl rfl, ?_⟩
      show R (some (.int (if ((1 + (i : Int)) == c) = true then 1 else 0)))
      by_cases h : 1 + (i : Int) = c
      · rw [if_pos (beq_iff_eq.mpr h)]; rw [if_pos h] at hR; exact hR
      · rw [if_neg (by rw [beq_iff_eq]; exact h)]; rw [if_neg h] at hR; exact hR
    · rw [fm_map]
      have e2 : lotD (unitP (n - 1) c) = .tuple ((List.range (n - 1)).map fun i : Nat => PyData.int (if 1 + (i : Int) = c then 1 else 0)) := by unfold lotD unitP; rw [List.map_map]; rfl
      have e3 : rsD [(unitP (n - 1) c, 1)] = .tuple [PyData.tuple [lotD (unitP (n - 1) c), .int 1]] := rfl
      rw [e3, e2] at q
      exact ⟨two_le, one_le, q⟩
  · refine ifF (decide_eq_false h) ?_
    have e : uS (n - 1) c = [] := if_neg h
    rw [e] at q
    exact ⟨Nat.zero_le _, q⟩
def wf_lline : WF := fun ds Q => ∃ (n : Nat) (roads : List (Int × Int)) (r : Int), ds = [frD n roads, .int r] ∧ FrOk n roads ∧ 0 ≤ r ∧ r < roads.length ∧ Q (rsD (lineS (n - 1) (road roads r)))
theorem u_small {m : Nat} {c : Int} : ∀ q ∈ uS m c, small q.2 := fun q hq => by
  unfold uS at hq
  split at hq
  · rw [List.mem_singleton] at hq; subst hq; exact small_of (B := 1) (show (1 : Int).natAbs ≤ 1 by decide) (by decide)
  · cases hq
theorem hw_lline (ds : List W2.D) (Q : W2.D → Prop) (_ : ds.length = 2) (h : wf_lline ds Q) : wb__law_line wf_psum wf_lunit { nx := fun _ => Q .none, rt := Q } (startE ["frame", "r", "a", "b"] (ds.map .fz)) := by
  obtain ⟨n, roads, r, rfl, fo, r0, r1, q⟩ := h
  obtain ⟨g1, g2⟩ := fo.2.2.2 _ (road_mem r0 r1)
  rw [← lline_is g1.1 g2.1] at q
  have l1 := u_len (n - 1) (road roads r).1
  have l2 := u_len (n - 1) (road roads r).2
  exact ⟨_, rfl, _, road_at r0 r1, rfl, _, rfl, rfl, n, _, rfl, fo.1, fo.2.1, _, rfl, rfl, n, _, rfl, fo.1, fo.2.1, rfl, uS (n - 1) (road roads r).2, uS (n - 1) (road roads r).1, -1, rfl, u_keys _ _, by omega, small_of (B := 1) (by decide) (by decide), u_small, q⟩
def wf_lone : WF := fun ds Q => ∃ n : Nat, ds = [.int n] ∧ 1 ≤ n ∧ n ≤ 1000 ∧ Q (rsD (oneS (n - 1)))
theorem hw_lone (ds : List W2.D) (Q : W2.D → Prop) (_ : ds.length = 1) (h : wf_lone ds Q) : wb__law_one { nx := fun _ => Q .none, rt := Q } (startE ["n"] (ds.map .fz)) := by
  obtain ⟨n, rfl, h1, hn, q⟩ := h
  refine ⟨one_le, (fun z => nomatch z), (show 1 ≤ 1000 by decide), by omega, by omega, two_le, one_le, ?_⟩
  have en : ((n : Int) - 1).toNat = n - 1 := by omega
  rw [en, zeros_D]
  exact q
def wf_lprod : WF := fun ds Q => ∃ (n : Nat) (roads : List (Int × Int)) (lot : List Int), ds = [frD n roads, lotD lot] ∧ FrOk n roads ∧ lot.length ≤ 12 ∧ InM roads.length lot ∧ Q (rsD (prodS (n - 1) roads lot))
theorem hw_lprod (ds : List W2.D) (Q : W2.D → Prop) (_ : ds.length = 2) (h : wf_lprod ds Q) : wb__law_product wf_lone Po.wf_mul wf_lline { nx := fun _ => Q .none, rt := Q } (startE ["frame", "lot", "found", "r"] (ds.map .fz)) := by
  obtain ⟨n, roads, lot, rfl, fo, hl, hr, q⟩ := h
  have hn := fo.2.1
  refine ⟨_, rfl, rfl, n, rfl, fo.1, hn, ?_⟩
  show forGo _ _ _ (lot.map PyData.int) [.fz (frD n roads), .fz (lotD lot), .fz (rsD (oneS (n - 1))), .un]
  refine for_foldW PyData.int (fun (s : Nat × List LI) η => PP (n - 1) s.1 s.2 ∧ nrm s.2 ≤ 2 ^ s.1 ∧ ∃ a, η = [.fz (frD n roads), .fz (lotD lot), .fz (rsD s.2), a]) (fun s r => (s.1 + 1, pmul s.2 (lineS (n - 1) (road roads r)))) (fun s => s.1) (fun _ => 1) (fun s x => Nat.le_refl _) (B := 12) lot (0, oneS (n - 1)) _ ⟨one_pp _, Nat.le_refl _, _, rfl⟩ (by rw [sum_one]; show 0 + _ ≤ 12; omega) (fun r hr' s η hI hB Kc hK => ?_) (fun η hI => ?_)
  · obtain ⟨pp, nn, a, rfl⟩ := hI
    have hB' : s.1 + 1 ≤ 12 := hB
    have pw : 2 ^ s.1 ≤ 2048 := Nat.le_trans (Nat.pow_le_pow_right (by decide) (show s.1 ≤ 11 by omega)) (by decide)
    have lp := line_pp (n - 1) (road roads r)
    have ln := line_nrm (n - 1) (road roads r)
    obtain ⟨r0, r1⟩ := hr r hr'
    refine ⟨rfl, n, roads, r, rfl, fo, r0, r1, rfl, s.2, _, rfl, pp.mulOk lp (by omega) ?_ (Nat.lt_of_le_of_lt (Nat.le_trans nn pw) (by decide)) (Nat.lt_of_le_of_lt ln (by decide)), ?_⟩
    · exact Nat.le_trans (Nat.mul_le_mul (Nat.le_trans pp.nf.len (Nat.le_trans nn pw)) (Nat.le_trans lp.nf.len ln)) (by decide)
    · refine hK _ ⟨pp.mul lp, ?_, _, rfl⟩
      rw [Nat.pow_succ]
      exact Nat.le_trans (nrm_mul pop _ _) (Nat.mul_le_mul nn ln)
  · obtain ⟨_, _, a, rfl⟩ := hI
    have e : ∀ (l : List Int) (s : Nat × List LI), (l.foldl (fun s r => (s.1 + 1, pmul s.2 (lineS (n - 1) (road roads r)))) s).2 = l.foldl (fun P r => pmul P (lineS (n - 1) (road roads r))) s.2 := by
      intro l
      induction l with
      | nil => intro s; rfl
      | cons x l ih => intro s; rw [List.foldl_cons, List.foldl_cons, ih]
    rw [e]
    exact q
end Li

set_option Elab.async false
set_option linter.all false
set_option maxRecDepth 100000
set_option autoImplicit false
/-! W4H: worths and degrees of products of lines. -/
namespace Li
open PySem PySem.Spec PyProof.Rows L2 W2 PySem.W Sm Po

theorem mono_unitF (c : Int) : ∀ (rs : List Int) (j t : Int), (List.zip rs ((List.range rs.length).map fun i : Nat => if j + (i : Int) = c then (1 : Int) else 0)).foldl mulq t = t * (if j ≤ c ∧ c < j + (rs.length : Nat) then at_ rs (c - j) else 1)
  | [], j, t => by
    rw [if_neg (by rw [List.length_nil]; omega), Int.mul_one]
    rfl
  | x :: rs, j, t => by
    have e : (List.range (x :: rs).length).map (fun i : Nat => if j + (i : Int) = c then (1 : Int) else 0) = (if j = c then (1 : Int) else 0) :: (List.range rs.length).map fun i : Nat => if (j + 1) + (i : Int) = c then (1 : Int) else 0 := by
      rw [List.length_cons, List.range_succ_eq_map, List.map_cons, List.map_map]
      congr 1
      · show (if j + ((0 : Nat) : Int) = c then (1 : Int) else 0) = _
        rw [show j + ((0 : Nat) : Int) = j by omega]
      · refine List.map_congr_left fun i _ => ?_
        show (if j + ((i + 1 : Nat) : Int) = c then (1 : Int) else 0) = _
        rw [show j + ((i + 1 : Nat) : Int) = j + 1 + (i : Int) by omega]
    rw [e, List.zip_cons_cons, List.foldl_cons, mono_unitF c rs (j + 1), List.length_cons]
    by_cases h : j = c
    · subst h
      rw [if_pos rfl, if_neg (show ¬(j + 1 ≤ j ∧ j < j + 1 + ((rs.length : Nat) : Int)) by omega), Int.mul_one, if_pos (show j ≤ j ∧ j < j + ((rs.length + 1 : Nat) : Int) by omega), Int.sub_self]
      show t * x ^ (1 : Int).toNat = t * x
      rw [show (1 : Int).toNat = 1 from rfl, Int.pow_succ, Int.pow_zero, Int.one_mul]
    · rw [if_neg h]
      have e2 : mulq t (x, 0) = t := by
        show t * x ^ (0 : Int).toNat = t
        rw [show (0 : Int).toNat = 0 from rfl, Int.pow_zero, Int.mul_one]
      rw [e2]
      by_cases h2 : j ≤ c ∧ c < j + ((rs.length + 1 : Nat) : Int)
      · rw [if_pos (by omega), if_pos h2]
        congr 1
        unfold at_
        rw [show (c - j).toNat = (c - (j + 1)).toNat + 1 by omega]
        rfl
      · rw [if_neg (by omega), if_neg h2]
theorem mono_unit {rs : List Int} {m : Nat} {c : Int} (hl : rs.length = m) (h1 : 1 ≤ c) (h2 : c ≤ m) : mono rs (unitP m c) = at_ rs (c - 1) := by
  subst hl
  unfold mono unitP
  rw [mono_unitF c rs 1 1, if_pos (by omega), Int.one_mul]
theorem unit_zero (m : Nat) : unitP m 0 = zeroP m := by
  unfold unitP zeroP
  rw [List.map_congr_left (g := fun _ => (0 : Int)) fun i _ => if_neg (by omega), List.map_const', List.length_range]
theorem mono_zero {rs : List Int} {m : Nat} (hl : rs.length = m) : mono rs (zeroP m) = 1 := by
  subst hl
  rw [← unit_zero]
  unfold mono unitP
  rw [mono_unitF 0 rs 1 1, if_neg (by omega), Int.one_mul]
theorem at_rises {hs : List Int} {c : Int} (h1 : 1 ≤ c) (h2 : c < hs.length) : at_ (rises hs) (c - 1) = at_ hs c - at_ hs 0 := by
  unfold rises
  have e : at_ ((hs.drop 1).map fun x => x - at_ hs 0) (c - 1) = at_ (hs.drop 1) (c - 1) - at_ hs 0 := by
    have hi : (c - 1).toNat < (hs.drop 1).length := by rw [List.length_drop]; omega
    show ((hs.drop 1).map fun x => x - at_ hs 0).getD (c - 1).toNat 0 = (hs.drop 1).getD (c - 1).toNat 0 - at_ hs 0
    rw [List.getD_eq_getElem?_getD, List.getD_eq_getElem?_getD, List.getElem?_map, List.getElem?_eq_getElem hi]
    rfl
  rw [e]
  congr 1
  unfold at_
  rw [List.getD_eq_getElem?_getD, List.getElem?_drop, List.getD_eq_getElem?_getD, show 1 + (c - 1).toNat = c.toNat by omega]
theorem worth_line {m : Nat} {hs : List Int} (H : HtOk m hs) {r : Int × Int} (ha : 0 ≤ r.1 ∧ r.1 ≤ m) (hb : 0 ≤ r.2 ∧ r.2 ≤ m) : worth (lineS m r) hs = at_ hs r.2 - at_ hs r.1 := by
  have hl := H.rise.1
  have len := H.len
  have one : ∀ c : Int, 0 ≤ c → c ≤ m → (if c = 0 then 0 else mono (rises hs) (unitP m c)) = at_ hs c - at_ hs 0 := fun c h0 h1 => by
    by_cases z : c = 0
    · subst z; rw [if_pos rfl, Int.sub_self]
    · rw [if_neg z, mono_unit hl (by omega) h1, at_rises (by omega) (by omega)]
  unfold worth
  rw [line_ev, one r.2 hb.1 hb.2, one r.1 ha.1 ha.2]
  omega
def Ends (m : Nat) (roads : List (Int × Int)) (lot : List Int) : Prop := ∀ r ∈ lot, (0 ≤ (road roads r).1 ∧ (road roads r).1 ≤ m) ∧ 0 ≤ (road roads r).2 ∧ (road roads r).2 ≤ m
theorem worth_prodF {m : Nat} {hs : List Int} (H : HtOk m hs) {roads : List (Int × Int)} : ∀ (lot : List Int) (P : List LI) (d : Nat), Ends m roads lot → PP m d P →
    worth (lot.foldl (fun P r => pmul P (lineS m (road roads r))) P) hs = lot.foldl (fun w r => w * (at_ hs (road roads r).2 - at_ hs (road roads r).1)) (worth P hs)
  | [], P, d, _, _ => rfl
  | r :: lot, P, d, h, hp => by
    have hr := h r List.mem_cons_self
    rw [List.foldl_cons, List.foldl_cons, worth_prodF H lot _ (d + 1) (fun x hx => h x (List.mem_cons_of_mem _ hx)) (hp.mul (line_pp m _)), worth_mul hp (line_pp m _) H.rise.1, worth_line H hr.1 hr.2]
theorem worth_prod {m : Nat} {hs : List Int} (H : HtOk m hs) {roads : List (Int × Int)} {lot : List Int} (h : Ends m roads lot) : worth (prodS m roads lot) hs = lot.foldl (fun w r => w * (at_ hs (road roads r).2 - at_ hs (road roads r).1)) 1 := by
  unfold prodS
  rw [worth_prodF H lot _ 0 h (one_pp m)]
  have e : worth (oneS m) hs = 1 := by
    unfold worth oneS
    rw [ev_cons, ev_nil, mono_zero H.rise.1]
    rfl
  rw [e]
/-! degrees -/
theorem unit_sumF (c j : Int) : ∀ k : Nat, ((List.range k).map fun i : Nat => if j + (i : Int) = c then (1 : Int) else 0).sum = if j ≤ c ∧ c < j + k then 1 else 0
  | 0 => by rw [if_neg (by omega)]; rfl
  | k + 1 => by
    rw [List.range_succ, List.map_append, List.sum_append, unit_sumF c j k]
    show _ + ((if j + (k : Int) = c then (1 : Int) else 0) + 0) = _
    split <;> split <;> split <;> omega
theorem unit_one {m : Nat} {c : Int} (h1 : 1 ≤ c) (h2 : c ≤ m) : (unitP m c).sum = 1 := by
  unfold unitP
  rw [unit_sumF c 1 m, if_pos (by omega)]
theorem line_loop {m : Nat} {r : Int × Int} (h : r.1 = r.2) : lineS m r = [] := by
  refine Nf.ext (line_nf _ _) nf_nil fun f => ?_
  rw [line_ev, h, Int.sub_self, ev_nil]
theorem line_deg {m : Nat} {r : Int × Int} (ha : 0 ≤ r.1 ∧ r.1 ≤ m) (hb : 0 ≤ r.2 ∧ r.2 ≤ m) (h : r.1 ≠ r.2) : lineS m r ≠ [] ∧ degS (lineS m r) = 1 := by
  have ne : lineS m r ≠ [] := fun z => by
    have key : ∀ f, ev f (lineS m r) = 0 := fun f => by rw [z]; rfl
    by_cases b0 : r.2 = 0
    · have a0 : r.1 ≠ 0 := by omega
      have k := key fun k => at_ k (r.1 - 1)
      rw [line_ev, if_pos b0, if_neg a0, unit_at (by omega) (by omega), if_pos rfl] at k
      omega
    · have k := key fun k => at_ k (r.2 - 1)
      rw [line_ev, if_neg b0, unit_at (by omega) (by omega), if_pos rfl] at k
      by_cases a0 : r.1 = 0
      · rw [if_pos a0] at k; omega
      · rw [if_neg a0, unit_at (by omega) (by omega), if_neg (by omega)] at k; omega
  refine ⟨ne, ?_⟩
  have all : ∀ p ∈ lineS m r, p.1.sum = 1 := fun p hp => by
    refine keys_of (P := fun k => k.sum = 1) [] (fun M x hx hM => ?_) (fun _ h => nomatch h) p (mem_told.mp hp).1
    unfold lineIn
    split
    · exact hM
    · next c0 =>
      intro z hz
      rcases put_mem hz with e | e
      · rw [e]
        simp only [List.mem_cons, List.not_mem_nil, or_false] at hx
        rcases hx with rfl | rfl
        · exact unit_one (by show 1 ≤ r.2; have : r.2 ≠ 0 := c0; omega) hb.2
        · exact unit_one (by show 1 ≤ r.1; have : r.1 ≠ 0 := c0; omega) ha.2
      · exact hM z e
  obtain ⟨p, hp, e⟩ := degS_has (line_pp m r) ne
  rw [← e, all p hp]
theorem deg_nil : degS [] = -1 := rfl
theorem prod_degF {m : Nat} {roads : List (Int × Int)} : ∀ (lot : List Int) (P : List LI) (d : Nat), Ends m roads lot → (∀ r ∈ lot, (road roads r).1 ≠ (road roads r).2) → PP m d P → 0 ≤ degS P →
    degS (lot.foldl (fun P r => pmul P (lineS m (road roads r))) P) = degS P + (lot.length : Nat)
  | [], P, d, _, _, _, _ => by show degS P = degS P + ((0 : Nat) : Int); omega
  | r :: lot, P, d, h, hn, hp, h0 => by
    have hr := h r List.mem_cons_self
    obtain ⟨n1, d1⟩ := line_deg hr.1 hr.2 (hn r List.mem_cons_self)
    have np : P ≠ [] := fun z => by rw [z, deg_nil] at h0; omega
    have dm := prod_top hp (line_pp m (road roads r)) np n1
    rw [List.foldl_cons, prod_degF lot _ (d + 1) (fun x hx => h x (List.mem_cons_of_mem _ hx)) (fun x hx => hn x (List.mem_cons_of_mem _ hx)) (hp.mul (line_pp m _)) (by omega), dm, d1, List.length_cons]
    omega
theorem prod_nilF (m : Nat) (roads : List (Int × Int)) : ∀ lot : List Int, lot.foldl (fun P r => pmul P (lineS m (road roads r))) [] = []
  | [] => rfl
  | r :: lot => by rw [List.foldl_cons, pmul_nil, prod_nilF m roads lot]
theorem prod_loopF {m : Nat} {roads : List (Int × Int)} : ∀ (lot : List Int) (P : List LI), (∃ r ∈ lot, (road roads r).1 = (road roads r).2) → lot.foldl (fun P r => pmul P (lineS m (road roads r))) P = []
  | [], P, h => by obtain ⟨r, hr, _⟩ := h; cases hr
  | r :: lot, P, h => by
    rw [List.foldl_cons]
    by_cases e : (road roads r).1 = (road roads r).2
    · rw [line_loop e, pmul_zero, prod_nilF]
    · refine prod_loopF lot _ ?_
      obtain ⟨x, hx, hx2⟩ := h
      rcases List.mem_cons.mp hx with z | z
      · subst z; exact absurd hx2 e
      · exact ⟨x, z, hx2⟩
def loopsS (roads : List (Int × Int)) (lot : List Int) : List Int := lot.filter fun r => (road roads r).1 == (road roads r).2
theorem prod_deg {m : Nat} {roads : List (Int × Int)} {lot : List Int} (h : Ends m roads lot) : degS (prodS m roads lot) = if loopsS roads lot = [] then ((lot.length : Nat) : Int) else -1 := by
  by_cases c : loopsS roads lot = []
  · rw [if_pos c]
    have hn : ∀ r ∈ lot, (road roads r).1 ≠ (road roads r).2 := fun r hr z => by
      have : r ∈ loopsS roads lot := List.mem_filter.mpr ⟨hr, beq_iff_eq.mpr z⟩
      rw [c] at this
      cases this
    have d0 : degS (oneS m) = 0 := by
      show max (-1) (zeroP m).sum = 0
      have : (zeroP m).sum = 0 := by rw [← unit_zero]; unfold unitP; rw [unit_sumF 0 1 m, if_neg (by omega)]
      rw [this]; rfl
    unfold prodS
    rw [prod_degF lot _ 0 h hn (one_pp m) (by rw [d0]; omega), d0]
    omega
  · rw [if_neg c]
    obtain ⟨r, hr⟩ := List.exists_mem_of_ne_nil _ c
    obtain ⟨h1, h2⟩ := List.mem_filter.mp hr
    unfold prodS
    rw [prod_loopF lot _ ⟨r, h1, beq_iff_eq.mp h2⟩, deg_nil]
end Li

set_option Elab.async false
set_option linter.all false
set_option maxRecDepth 100000
namespace K09
open PySem PySem.Spec PyProof.Rows L2 W2
/-! ### the text (printed by gen.py) -/
def topS (i : Nat) : Stmt := PySem.Challenge.pw_starpowers_k09_whole_products_of_lines.main.body.getD i (.Pass ⟨0, 0, 0, 0⟩)
abbrev s_degree_of : Stmt := topS 9
abbrev s_worth_of : Stmt := topS 10
abbrev s_told_polynomial : Stmt := topS 6
abbrev s_unit_powers : Stmt := topS 12
abbrev s_line_of : Stmt := topS 13
abbrev s_added_powers : Stmt := topS 7
abbrev s_polynomial_product : Stmt := topS 8
abbrev s_product_of : Stmt := topS 14
abbrev s_all_roads : Stmt := topS 1
abbrev s_road_lots : Stmt := topS 15
abbrev s_heads_by : Stmt := topS 2
abbrev s_pieces_by : Stmt := topS 3
abbrev s_piece_count : Stmt := topS 4
abbrev s_is_whole_lot : Stmt := topS 16
abbrev s_whole_lots : Stmt := topS 17
abbrev s_is_free_lot : Stmt := topS 18
abbrev s_free_lots_told : Stmt := topS 19
abbrev s_all_products : Stmt := topS 20
abbrev s_whole_products : Stmt := topS 21
abbrev s__law_source : Stmt := topS 23
abbrev s__law_pick : Stmt := topS 24
abbrev s__law_mixed : Stmt := topS 25
abbrev s__law_hung : Stmt := topS 26
abbrev s__law_frame : Stmt := topS 28
abbrev s__law_told : Stmt := topS 29
abbrev s__law_sum : Stmt := topS 30
abbrev s__law_unit : Stmt := topS 32
abbrev s__law_line : Stmt := topS 33
abbrev s__law_times : Stmt := topS 31
abbrev s__law_one : Stmt := topS 34
abbrev s__law_product : Stmt := topS 35
abbrev s__law_lots : Stmt := topS 36
abbrev s__law_pieces : Stmt := topS 27
abbrev s__law_many_pieces : Stmt := topS 37
abbrev s__law_free_lots : Stmt := topS 38
abbrev s__law_whole_lots : Stmt := topS 39
abbrev s_law : Stmt := topS 40
theorem sc_degree_of : FnScope ["poly", "powers", "number"] ["poly"] (defScope s_degree_of) := ⟨rfl, rfl, rfl, by decide +kernel, rfl, by decide +kernel, by decide +kernel⟩
theorem sc_worth_of : FnScope ["poly", "heights", "total", "rises", "powers", "number", "rise", "power", "lap", "height"] ["poly", "heights"] (defScope s_worth_of) := ⟨rfl, rfl, rfl, by decide +kernel, rfl, by decide +kernel, by decide +kernel⟩
theorem sc_told_polynomial : FnScope ["numbers", "powers", "number"] ["numbers"] (defScope s_told_polynomial) := ⟨rfl, rfl, rfl, by decide +kernel, rfl, by decide +kernel, by decide +kernel⟩
theorem sc_unit_powers : FnScope ["n", "crossing", "c"] ["n", "crossing"] (defScope s_unit_powers) := ⟨rfl, rfl, rfl, by decide +kernel, rfl, by decide +kernel, by decide +kernel⟩
theorem sc_line_of : FnScope ["frame", "road", "a", "b", "found", "crossing", "number", "powers"] ["frame", "road"] (defScope s_line_of) := ⟨rfl, rfl, rfl, by decide +kernel, rfl, by decide +kernel, by decide +kernel⟩
theorem sc_added_powers : FnScope ["one", "other", "a", "b"] ["one", "other"] (defScope s_added_powers) := ⟨rfl, rfl, rfl, by decide +kernel, rfl, by decide +kernel, by decide +kernel⟩
theorem sc_polynomial_product : FnScope ["one", "other", "found", "powers", "number", "late", "times", "both"] ["one", "other"] (defScope s_polynomial_product) := ⟨rfl, rfl, rfl, by decide +kernel, rfl, by decide +kernel, by decide +kernel⟩
theorem sc_product_of : FnScope ["frame", "lot", "found", "road"] ["frame", "lot"] (defScope s_product_of) := ⟨rfl, rfl, rfl, by decide +kernel, rfl, by decide +kernel, by decide +kernel⟩
theorem sc_all_roads : FnScope ["frame"] ["frame"] (defScope s_all_roads) := ⟨rfl, rfl, rfl, by decide +kernel, rfl, by decide +kernel, by decide +kernel⟩
theorem sc_road_lots : FnScope ["frame", "found", "road", "lot"] ["frame"] (defScope s_road_lots) := ⟨rfl, rfl, rfl, by decide +kernel, rfl, by decide +kernel, by decide +kernel⟩
theorem sc_heads_by : FnScope ["frame", "lot", "heads", "road", "low", "high", "crossing", "head"] ["frame", "lot"] (defScope s_heads_by) := ⟨rfl, rfl, rfl, by decide +kernel, rfl, by decide +kernel, by decide +kernel⟩
theorem sc_pieces_by : FnScope ["frame", "lot", "heads", "found", "first", "crossing"] ["frame", "lot"] (defScope s_pieces_by) := ⟨rfl, rfl, rfl, by decide +kernel, rfl, by decide +kernel, by decide +kernel⟩
theorem sc_piece_count : FnScope ["frame", "lot"] ["frame", "lot"] (defScope s_piece_count) := ⟨rfl, rfl, rfl, by decide +kernel, rfl, by decide +kernel, by decide +kernel⟩
theorem sc_is_whole_lot : FnScope ["frame", "lot", "road"] ["frame", "lot"] (defScope s_is_whole_lot) := ⟨rfl, rfl, rfl, by decide +kernel, rfl, by decide +kernel, by decide +kernel⟩
theorem sc_whole_lots : FnScope ["frame", "lot"] ["frame"] (defScope s_whole_lots) := ⟨rfl, rfl, rfl, by decide +kernel, rfl, by decide +kernel, by decide +kernel⟩
theorem sc_is_free_lot : FnScope ["frame", "lot"] ["frame", "lot"] (defScope s_is_free_lot) := ⟨rfl, rfl, rfl, by decide +kernel, rfl, by decide +kernel, by decide +kernel⟩
theorem sc_free_lots_told : FnScope ["frame", "lot"] ["frame"] (defScope s_free_lots_told) := ⟨rfl, rfl, rfl, by decide +kernel, rfl, by decide +kernel, by decide +kernel⟩
theorem sc_all_products : FnScope ["frame", "lot"] ["frame"] (defScope s_all_products) := ⟨rfl, rfl, rfl, by decide +kernel, rfl, by decide +kernel, by decide +kernel⟩
theorem sc_whole_products : FnScope ["frame", "lot"] ["frame"] (defScope s_whole_products) := ⟨rfl, rfl, rfl, by decide +kernel, rfl, by decide +kernel, by decide +kernel⟩
theorem sc__law_source : FnScope ["script", "mixed", "cell"] ["script"] (defScope s__law_source) := ⟨rfl, rfl, rfl, by decide +kernel, rfl, by decide +kernel, by decide +kernel⟩
theorem sc__law_pick : FnScope ["source", "many", "left", "mixed"] ["source", "many"] (defScope s__law_pick) := ⟨rfl, rfl, rfl, by decide +kernel, rfl, by decide +kernel, by decide +kernel⟩
theorem sc__law_mixed : FnScope ["source", "things", "rest", "lap"] ["source", "things"] (defScope s__law_mixed) := ⟨rfl, rfl, rfl, by decide +kernel, rfl, by decide +kernel, by decide +kernel⟩
theorem sc__law_hung : FnScope ["source", "crossings", "roads", "n", "pairs", "names", "k", "lap", "pair"] ["source", "crossings", "roads"] (defScope s__law_hung) := ⟨rfl, rfl, rfl, by decide +kernel, rfl, by decide +kernel, by decide +kernel⟩
theorem sc__law_frame : FnScope ["source", "crossings", "roads", "n", "r"] ["source", "crossings", "roads"] (defScope s__law_frame) := ⟨rfl, rfl, rfl, by decide +kernel, rfl, by decide +kernel, by decide +kernel⟩
theorem sc__law_told : FnScope ["numbers", "powers"] ["numbers"] (defScope s__law_told) := ⟨rfl, rfl, rfl, by decide +kernel, rfl, by decide +kernel, by decide +kernel⟩
theorem sc__law_sum : FnScope ["one", "other", "times", "found", "powers", "number"] ["one", "other", "times"] (defScope s__law_sum) := ⟨rfl, rfl, rfl, by decide +kernel, rfl, by decide +kernel, by decide +kernel⟩
theorem sc__law_unit : FnScope ["n", "c", "k"] ["n", "c"] (defScope s__law_unit) := ⟨rfl, rfl, rfl, by decide +kernel, rfl, by decide +kernel, by decide +kernel⟩
theorem sc__law_line : FnScope ["frame", "r", "a", "b"] ["frame", "r"] (defScope s__law_line) := ⟨rfl, rfl, rfl, by decide +kernel, rfl, by decide +kernel, by decide +kernel⟩
theorem sc__law_times : FnScope ["one", "other", "found", "powers", "number", "late", "more", "both", "a", "b"] ["one", "other"] (defScope s__law_times) := ⟨rfl, rfl, rfl, by decide +kernel, rfl, by decide +kernel, by decide +kernel⟩
theorem sc__law_one : FnScope ["n"] ["n"] (defScope s__law_one) := ⟨rfl, rfl, rfl, by decide +kernel, rfl, by decide +kernel, by decide +kernel⟩
theorem sc__law_product : FnScope ["frame", "lot", "found", "r"] ["frame", "lot"] (defScope s__law_product) := ⟨rfl, rfl, rfl, by decide +kernel, rfl, by decide +kernel, by decide +kernel⟩
theorem sc__law_lots : FnScope ["m", "found", "r", "lot"] ["m"] (defScope s__law_lots) := ⟨rfl, rfl, rfl, by decide +kernel, rfl, by decide +kernel, by decide +kernel⟩
theorem sc__law_pieces : FnScope ["frame", "roads", "heads", "r", "one", "other", "c", "head"] ["frame", "roads"] (defScope s__law_pieces) := ⟨rfl, rfl, rfl, by decide +kernel, rfl, by decide +kernel, by decide +kernel⟩
theorem sc__law_many_pieces : FnScope ["frame", "lot", "head"] ["frame", "lot"] (defScope s__law_many_pieces) := ⟨rfl, rfl, rfl, by decide +kernel, rfl, by decide +kernel, by decide +kernel⟩
theorem sc__law_free_lots : FnScope ["frame", "lot"] ["frame"] (defScope s__law_free_lots) := ⟨rfl, rfl, rfl, by decide +kernel, rfl, by decide +kernel, by decide +kernel⟩
theorem sc__law_whole_lots : FnScope ["frame", "m", "found", "lot", "r"] ["frame"] (defScope s__law_whole_lots) := ⟨rfl, rfl, rfl, by decide +kernel, rfl, by decide +kernel, by decide +kernel⟩
theorem sc_law : FnScope ["script", "source", "lap", "frame", "n", "m", "kept", "heights", "rises", "lots", "free", "products", "lot", "product", "worth", "r", "loops", "whole", "due", "c", "a", "b"] ["script"] (defScope s_law) := ⟨rfl, rfl, rfl, by decide +kernel, rfl, by decide +kernel, by decide +kernel⟩
/-- the facts of the written part -/
structure Fs (K : PySem.W.Frag) (mg : Str → Option Value) where
  f_degree_of : FnF K mg "degree_of" s_degree_of ["poly"]
  f_worth_of : FnF K mg "worth_of" s_worth_of ["poly", "heights"]
  f_told_polynomial : FnF K mg "told_polynomial" s_told_polynomial ["numbers"]
  f_unit_powers : FnF K mg "unit_powers" s_unit_powers ["n", "crossing"]
  f_line_of : FnF K mg "line_of" s_line_of ["frame", "road"]
  f_added_powers : FnF K mg "added_powers" s_added_powers ["one", "other"]
  f_polynomial_product : FnF K mg "polynomial_product" s_polynomial_product ["one", "other"]
  f_product_of : FnF K mg "product_of" s_product_of ["frame", "lot"]
  f_all_roads : FnF K mg "all_roads" s_all_roads ["frame"]
  f_road_lots : FnF K mg "road_lots" s_road_lots ["frame"]
  f_heads_by : FnF K mg "heads_by" s_heads_by ["frame", "lot"]
  f_pieces_by : FnF K mg "pieces_by" s_pieces_by ["frame", "lot"]
  f_piece_count : FnF K mg "piece_count" s_piece_count ["frame", "lot"]
  f_is_whole_lot : FnF K mg "is_whole_lot" s_is_whole_lot ["frame", "lot"]
  f_whole_lots : FnF K mg "whole_lots" s_whole_lots ["frame"]
  f_is_free_lot : FnF K mg "is_free_lot" s_is_free_lot ["frame", "lot"]
  f_free_lots_told : FnF K mg "free_lots_told" s_free_lots_told ["frame"]
  f_all_products : FnF K mg "all_products" s_all_products ["frame"]
  f_whole_products : FnF K mg "whole_products" s_whole_products ["frame"]
  f__law_source : FnF K mg "_law_source" s__law_source ["script"]
  f__law_pick : FnF K mg "_law_pick" s__law_pick ["source", "many"]
  f__law_mixed : FnF K mg "_law_mixed" s__law_mixed ["source", "things"]
  f__law_hung : FnF K mg "_law_hung" s__law_hung ["source", "crossings", "roads"]
  f__law_frame : FnF K mg "_law_frame" s__law_frame ["source", "crossings", "roads"]
  f__law_told : FnF K mg "_law_told" s__law_told ["numbers"]
  f__law_sum : FnF K mg "_law_sum" s__law_sum ["one", "other", "times"]
  f__law_unit : FnF K mg "_law_unit" s__law_unit ["n", "c"]
  f__law_line : FnF K mg "_law_line" s__law_line ["frame", "r"]
  f__law_times : FnF K mg "_law_times" s__law_times ["one", "other"]
  f__law_one : FnF K mg "_law_one" s__law_one ["n"]
  f__law_product : FnF K mg "_law_product" s__law_product ["frame", "lot"]
  f__law_lots : FnF K mg "_law_lots" s__law_lots ["m"]
  f__law_pieces : FnF K mg "_law_pieces" s__law_pieces ["frame", "roads"]
  f__law_many_pieces : FnF K mg "_law_many_pieces" s__law_many_pieces ["frame", "lot"]
  f__law_free_lots : FnF K mg "_law_free_lots" s__law_free_lots ["frame"]
  f__law_whole_lots : FnF K mg "_law_whole_lots" s__law_whole_lots ["frame"]
  f_law : FnF K mg "law" s_law ["script"]
  n_abs : mg "abs" = none
  n_dict : mg "dict" = none
  n_int : mg "int" = none
  n_len : mg "len" = none
  n_list : mg "list" = none
  n_max : mg "max" = none
  n_min : mg "min" = none
  n_range : mg "range" = none
  n_repr : mg "repr" = none
  n_sorted : mg "sorted" = none
  n_sum : mg "sum" = none
  n_tuple : mg "tuple" = none
  n_zip : mg "zip" = none
section
variable {P : Program} {w : World} {K : PySem.W.Frag} {mg : Str → Option Value} {base : Heap}
def wb_degree_of : WS :=
  wRet (wCall gMaxX (wCons (w2 gCat (wLst (wCons (w1 gNeg (wC (.int 1))) (wNil))) (wLc (wItems (wN 0)) (wGt 2 (wGcons (wGn 1) (wGcons (wGn 2) (wGnil)))) (wYes) (wCall gSum (wCons (wB 1) (wNil))) [1, 2])) (wNil)))
theorem wk_degree_of (Z : Fs K mg) {wf : WF} (hw : ∀ ds Q, ds.length = 1 → wf ds Q → wb_degree_of { nx := fun _ => Q .none, rt := Q } (startE ["poly", "powers", "number"] (ds.map .fz))) : FnG P w K mg base 1 Z.f_degree_of.a Z.f_degree_of.d ["poly"] (spW K 1 wf) :=
  fn_pure (wf := wf) (wb := wb_degree_of) Z.f_degree_of.F sc_degree_of (fun cdv A outer s H hr hG => ⟨_,
    dss_one (ds_ret (de_callB (cr_maxX K rfl rfl) (@cs_maxX _) bt_max (by rfl) Z.n_max (da_cons (DL.op (dl_op op_cat (@rs_cat _) (DL.op (dl_lst (db_cons (de_neg (DE.op (de_int))) (db_nil)))) (DL.op (dl_lcV rfl sc_degree_of.nd (di_itemsK K rfl (de_name 0)) [("powers", 1), ("number", 2)] (blkOk_by (N := ["poly", "powers", "number"]) (sc := defScope s_degree_of) (by decide +kernel)) (fun _ _ _ _ _ => dg_tupK K rfl rfl (dgs_cons (dg_name 1 sc_degree_of.nd) (dgs_cons (dg_name 2 sc_degree_of.nd) (dgs_nil)))) (fun _ _ _ _ _ => dtt_nil) (fun _ _ _ _ _ => de_callB (cr_sumX K rfl rfl) (@cs_sumX _) bt_sum (by rfl) Z.n_sum (da_cons (do_name 1) (da_nil))) (by decide))))) (da_nil))))⟩) hw
def wb_worth_of : WS :=
  wSeq (wPar [2, 3] (wMFz (wC (.int 0)) (wMFz (wLc (wItems (wSl (wB 1) (wPart (wC (.int 1))) (wNoPart))) (wGn 9) (wYes) (w2 gSubI (wB 9) (w2 gIxA (wB 1) (wC (.int 0)))) [9]) (wMNil)))) (wSeq (wFor (wItems (wN 0)) (wGt 2 (wGcons (wGn 4) (wGcons (wGn 5) (wGnil)))) (wSeq (wFor (wZip true (wCons (wN 3) (wCons (wN 4) (wNil)))) (wGt 2 (wGcons (wGn 6) (wGcons (wGn 7) (wGnil)))) (wFor (wRng1 (wB 7)) (wGn 8) (wAsg (w2 gMulI (wB 5) (wB 6)) (wGn 5)))) (wAug 2 (wB 5) gAddI))) (wRet (wN 2)))
theorem wk_worth_of (Z : Fs K mg) {wf : WF} (hw : ∀ ds Q, ds.length = 2 → wf ds Q → wb_worth_of { nx := fun _ => Q .none, rt := Q } (startE ["poly", "heights", "total", "rises", "powers", "number", "rise", "power", "lap", "height"] (ds.map .fz))) : FnG P w K mg base 1 Z.f_worth_of.a Z.f_worth_of.d ["poly", "heights"] (spW K 2 wf) :=
  fn_pure (wf := wf) (wb := wb_worth_of) Z.f_worth_of.F sc_worth_of (fun cdv A outer s H hr hG => ⟨_,
    dss_cons (ds_par2 2 3 rfl sc_worth_of.nd (dm_fz (de_int) (dm_fz (DL.fr (dl_lcV rfl sc_worth_of.nd (di_itemsK K rfl (de_sliceK K rfl (do_name 1) (dpo_some (DE.op (de_int))) (dpo_none))) [("height", 9)] (blkOk_by (N := ["poly", "heights", "total", "rises", "powers", "number", "rise", "power", "lap", "height"]) (sc := defScope s_worth_of) (by decide +kernel)) (fun _ _ _ _ _ => dg_name 9 sc_worth_of.nd) (fun _ _ _ _ _ => dtt_nil) (fun _ _ _ _ _ => de_op op_sub (@rs_subI _) (do_name 9) (DE.op (de_ixK K rfl (un1 hr) (fun _ _ => rfl) (do_name 1) (de_int)))) (by decide))) (dm_nil)))) (dss_cons (ds_for PassesOwn.never rfl (di_itemsK K rfl (de_name 0)) (dg_tupK K rfl rfl (dgs_cons (dg_name 4 sc_worth_of.nd) (dgs_cons (dg_name 5 sc_worth_of.nd) (dgs_nil)))) (dss_cons (ds_for PassesOwn.never rfl (di_zpSK K rfl (by rfl) Z.n_zip (db_cons (de_name 3) (db_cons (de_name 4) (db_nil)))) (dg_tupK K rfl rfl (dgs_cons (dg_name 6 sc_worth_of.nd) (dgs_cons (dg_name 7 sc_worth_of.nd) (dgs_nil)))) (dss_one (ds_for PassesOwn.never rfl (di_range1 (by rfl) Z.n_range (do_name 7)) (dg_name 8 sc_worth_of.nd) (dss_one (ds_set 5 sc_worth_of.nd (de_op op_mulW (@rs_mulI _) (do_name 5) (do_name 6))))))) (dss_one (ds_aug 2 sc_worth_of.nd iop_add (@rs_addI _) (do_name 5))))) (dss_one (ds_ret (de_name 2))))⟩) hw
def wb_told_polynomial : WS :=
  wRet (wCall gTuple (wCons (wCall gSorted (wCons (wLc (wItm (wN 0)) (wGt 2 (wGcons (wGn 1) (wGcons (wGn 2) (wGnil)))) (wTrB (w2 gNe (wB 2) (wC (.int 0)))) (wTup (wCons (wN 1) (wCons (wN 2) (wNil)))) [1, 2]) (wNil))) (wNil)))
theorem wk_told_polynomial (Z : Fs K mg) {wf : WF} (hw : ∀ ds Q, ds.length = 1 → wf ds Q → wb_told_polynomial { nx := fun _ => Q .none, rt := Q } (startE ["numbers", "powers", "number"] (ds.map .fz))) : FnG P w K mg base 1 Z.f_told_polynomial.a Z.f_told_polynomial.d ["numbers"] (spW K 1 wf) :=
  fn_pure (wf := wf) (wb := wb_told_polynomial) Z.f_told_polynomial.F sc_told_polynomial (fun cdv A outer s H hr hG => ⟨_,
    dss_one (ds_ret (de_callT (cr_tupleK K rfl) (@cs_tuple _) boot_tuple (by rfl) Z.n_tuple (da_cons (DL.op (dl_callB (cr_sortedK K rfl rfl (un70 hr)) (@cs_sorted _) bt_sorted (by rfl) Z.n_sorted (da_cons (DL.op (dl_lcV rfl sc_told_polynomial.nd (di_itm (de_name 0)) [("powers", 1), ("number", 2)] (blkOk_by (N := ["numbers", "powers", "number"]) (sc := defScope s_told_polynomial) (by decide +kernel)) (fun _ _ _ _ _ => dg_tupK K rfl rfl (dgs_cons (dg_name 1 sc_told_polynomial.nd) (dgs_cons (dg_name 2 sc_told_polynomial.nd) (dgs_nil)))) (fun _ _ _ _ _ => dtt_one (dt_cmp (op_neK K rfl (un64 hr)) (@rs_ne _) (by rfl) (do_name 2) (DE.op (de_int)))) (fun _ _ _ _ _ => de_tup (db_cons (de_name 1) (db_cons (de_name 2) (db_nil)))) (by decide))) (da_nil)))) (da_nil))))⟩) hw
def wb_unit_powers : WS :=
  wRet (wCall gTuple (wCons (wLc (wRng2 (wC (.int 1)) (wB 0)) (wGn 2) (wYes) (wCall gInt (wCons (w2 gEq (wB 2) (wB 1)) (wNil))) [2]) (wNil)))
theorem wk_unit_powers (Z : Fs K mg) {wf : WF} (hw : ∀ ds Q, ds.length = 2 → wf ds Q → wb_unit_powers { nx := fun _ => Q .none, rt := Q } (startE ["n", "crossing", "c"] (ds.map .fz))) : FnG P w K mg base 1 Z.f_unit_powers.a Z.f_unit_powers.d ["n", "crossing"] (spW K 2 wf) :=
  fn_pure (wf := wf) (wb := wb_unit_powers) Z.f_unit_powers.F sc_unit_powers (fun cdv A outer s H hr hG => ⟨_,
    dss_one (ds_ret (de_callT (cr_tupleK K rfl) (@cs_tuple _) boot_tuple (by rfl) Z.n_tuple (da_cons (DL.op (dl_lcV rfl sc_unit_powers.nd (di_range2 (by rfl) Z.n_range (DE.op (de_int)) (do_name 0)) [("c", 2)] (blkOk_by (N := ["n", "crossing", "c"]) (sc := defScope s_unit_powers) (by decide +kernel)) (fun _ _ _ _ _ => dg_name 2 sc_unit_powers.nd) (fun _ _ _ _ _ => dtt_nil) (fun _ _ _ _ _ => de_callT call_int1 (@cs_int _) boot_int (by rfl) Z.n_int (da_cons (DE.op (de_cmp (op_eqK K rfl (un64 hr)) (@rs_eq _) (by rfl) (do_name 2) (do_name 1))) (da_nil))) (by decide))) (da_nil))))⟩) hw
def wb_line_of (wf_unit_powers wf_told_polynomial : WF) : WS :=
  wSeq (wParN [2, 3] [4] (wMFz (w2 gIxA (w2 gIxA (wB 0) (wC (.int 1))) (wN 1)) (wMOw (wDNew) (wMNil)))) (wSeq (wFor (wItems (wTup (wCons (wTup (wCons (wN 3) (wCons (wC (.int 1)) (wNil)))) (wCons (wTup (wCons (wN 2) (wCons (w1 gNeg (wC (.int 1))) (wNil)))) (wNil))))) (wGt 2 (wGcons (wGn 5) (wGcons (wGn 6) (wGnil)))) (wIf (wTrB (w2 gNe (wB 5) (wC (.int 0)))) (wSeq (wAsg (wFn 2 wf_unit_powers (wCons (w2 gIxA (wB 0) (wC (.int 0))) (wCons (wN 5) (wNil)))) (wGn 7)) (wStore 4 (wN 7) (w2 gAdd (wGet2 (wB 4) (wN 7) (wC (.int 0))) (wB 6)))) (wNext))) (wFrz 4 (wRet (wFn 1 wf_told_polynomial (wCons (wN 4) (wNil))))))
theorem wk_line_of (Z : Fs K mg) {wf_unit_powers wf_told_polynomial : WF} {wf : WF} (G_unit_powers : FnG P w K mg base 1 Z.f_unit_powers.a Z.f_unit_powers.d ["n", "crossing"] (spW K 2 wf_unit_powers)) (G_told_polynomial : FnG P w K mg base 1 Z.f_told_polynomial.a Z.f_told_polynomial.d ["numbers"] (spW K 1 wf_told_polynomial)) (hw : ∀ ds Q, ds.length = 2 → wf ds Q → wb_line_of wf_unit_powers wf_told_polynomial { nx := fun _ => Q .none, rt := Q } (startE ["frame", "road", "a", "b", "found", "crossing", "number", "powers"] (ds.map .fz))) : FnG P w K mg base 2 Z.f_line_of.a Z.f_line_of.d ["frame", "road"] (spW K 2 wf) :=
  fn_pure (wf := wf) (wb := wb_line_of wf_unit_powers wf_told_polynomial) Z.f_line_of.F sc_line_of (fun cdv A outer s H hr hG => ⟨_,
    dss_cons (ds_parN K rfl rfl (dm_fz (de_ixK K rfl (un1 hr) (fun _ _ => rfl) (DE.op (de_ixK K rfl (un1 hr) (fun _ _ => rfl) (do_name 0) (de_int))) (de_name 1)) (dm_owD (dd_nil) (dm_nil))) (pgn_cons 2 sc_line_of.nd (pgn_cons 3 sc_line_of.nd (pgn_nil))) (pgn_cons 4 sc_line_of.nd (pgn_nil))) (dss_cons (ds_for PassesOwn.never rfl (di_itemsK K rfl (de_tup (db_cons (de_tup (db_cons (de_name 3) (db_cons (de_int) (db_nil)))) (db_cons (de_tup (db_cons (de_name 2) (db_cons (de_neg (DE.op (de_int))) (db_nil)))) (db_nil))))) (dg_tupK K rfl rfl (dgs_cons (dg_name 5 sc_line_of.nd) (dgs_cons (dg_name 6 sc_line_of.nd) (dgs_nil)))) (dss_one (ds_if (dt_cmp (op_neK K rfl (un64 hr)) (@rs_ne _) (by rfl) (do_name 5) (DE.op (de_int))) (dss_cons (ds_set 7 sc_line_of.nd (de_fnK K rfl (G_unit_powers.mono (by decide)) hr hG Z.f_unit_powers.m Z.f_unit_powers.F.kp Z.f_unit_powers.b (by rfl) (db_cons (de_ixK K rfl (un1 hr) (fun _ _ => rfl) (do_name 0) (de_int)) (db_cons (de_name 5) (db_nil))))) (dss_one (ds_store 4 (un1 hr) (de_op (op_addK K rfl) (@rs_add _) (DE.op (de_get2 (un1 hr) (do_name 4) (de_name 7) (de_int) ⟨by rfl, by rfl, by rfl, by rfl⟩)) (do_name 6)) (de_name 7) (pv 4)))) (dss_nil)))) (dss_frz 4 (dss_one (ds_ret (de_fnK K rfl (G_told_polynomial.mono (by decide)) hr hG Z.f_told_polynomial.m Z.f_told_polynomial.F.kp Z.f_told_polynomial.b (by rfl) (db_cons (de_name 4) (db_nil)))))))⟩) hw
def wb_added_powers : WS :=
  wRet (wCall gTuple (wCons (wLc (wZip true (wCons (wN 0) (wCons (wN 1) (wNil)))) (wGt 2 (wGcons (wGn 2) (wGcons (wGn 3) (wGnil)))) (wYes) (w2 gAdd (wB 2) (wB 3)) [2, 3]) (wNil)))
theorem wk_added_powers (Z : Fs K mg) {wf : WF} (hw : ∀ ds Q, ds.length = 2 → wf ds Q → wb_added_powers { nx := fun _ => Q .none, rt := Q } (startE ["one", "other", "a", "b"] (ds.map .fz))) : FnG P w K mg base 1 Z.f_added_powers.a Z.f_added_powers.d ["one", "other"] (spW K 2 wf) :=
  fn_pure (wf := wf) (wb := wb_added_powers) Z.f_added_powers.F sc_added_powers (fun cdv A outer s H hr hG => ⟨_,
    dss_one (ds_ret (de_callT (cr_tupleK K rfl) (@cs_tuple _) boot_tuple (by rfl) Z.n_tuple (da_cons (DL.op (dl_lcV rfl sc_added_powers.nd (di_zpSK K rfl (by rfl) Z.n_zip (db_cons (de_name 0) (db_cons (de_name 1) (db_nil)))) [("a", 2), ("b", 3)] (blkOk_by (N := ["one", "other", "a", "b"]) (sc := defScope s_added_powers) (by decide +kernel)) (fun _ _ _ _ _ => dg_tupK K rfl rfl (dgs_cons (dg_name 2 sc_added_powers.nd) (dgs_cons (dg_name 3 sc_added_powers.nd) (dgs_nil)))) (fun _ _ _ _ _ => dtt_nil) (fun _ _ _ _ _ => de_op (op_addK K rfl) (@rs_add _) (do_name 2) (do_name 3)) (by decide))) (da_nil))))⟩) hw
def wb_polynomial_product (wf_added_powers wf_told_polynomial : WF) : WS :=
  wSeq (wAsgL (wDNew) 2) (wSeq (wFor (wItems (wN 0)) (wGt 2 (wGcons (wGn 3) (wGcons (wGn 4) (wGnil)))) (wFor (wItems (wN 1)) (wGt 2 (wGcons (wGn 5) (wGcons (wGn 6) (wGnil)))) (wSeq (wAsg (wFn 2 wf_added_powers (wCons (wN 3) (wCons (wN 5) (wNil)))) (wGn 7)) (wStore 2 (wN 7) (w2 gAdd (wGet2 (wB 2) (wN 7) (wC (.int 0))) (w2 gMulI (wB 4) (wB 6))))))) (wFrz 2 (wRet (wFn 1 wf_told_polynomial (wCons (wN 2) (wNil))))))
theorem wk_polynomial_product (Z : Fs K mg) {wf_added_powers wf_told_polynomial : WF} {wf : WF} (G_added_powers : FnG P w K mg base 1 Z.f_added_powers.a Z.f_added_powers.d ["one", "other"] (spW K 2 wf_added_powers)) (G_told_polynomial : FnG P w K mg base 1 Z.f_told_polynomial.a Z.f_told_polynomial.d ["numbers"] (spW K 1 wf_told_polynomial)) (hw : ∀ ds Q, ds.length = 2 → wf ds Q → wb_polynomial_product wf_added_powers wf_told_polynomial { nx := fun _ => Q .none, rt := Q } (startE ["one", "other", "found", "powers", "number", "late", "times", "both"] (ds.map .fz))) : FnG P w K mg base 2 Z.f_polynomial_product.a Z.f_polynomial_product.d ["one", "other"] (spW K 2 wf) :=
  fn_pure (wf := wf) (wb := wb_polynomial_product wf_added_powers wf_told_polynomial) Z.f_polynomial_product.F sc_polynomial_product (fun cdv A outer s H hr hG => ⟨_,
    dss_cons (ds_setD 2 sc_polynomial_product.nd (dd_nil)) (dss_cons (ds_for PassesOwn.never rfl (di_itemsK K rfl (de_name 0)) (dg_tupK K rfl rfl (dgs_cons (dg_name 3 sc_polynomial_product.nd) (dgs_cons (dg_name 4 sc_polynomial_product.nd) (dgs_nil)))) (dss_one (ds_for PassesOwn.never rfl (di_itemsK K rfl (de_name 1)) (dg_tupK K rfl rfl (dgs_cons (dg_name 5 sc_polynomial_product.nd) (dgs_cons (dg_name 6 sc_polynomial_product.nd) (dgs_nil)))) (dss_cons (ds_set 7 sc_polynomial_product.nd (de_fnK K rfl (G_added_powers.mono (by decide)) hr hG Z.f_added_powers.m Z.f_added_powers.F.kp Z.f_added_powers.b (by rfl) (db_cons (de_name 3) (db_cons (de_name 5) (db_nil))))) (dss_one (ds_store 2 (un1 hr) (de_op (op_addK K rfl) (@rs_add _) (DE.op (de_get2 (un1 hr) (do_name 2) (de_name 7) (de_int) ⟨by rfl, by rfl, by rfl, by rfl⟩)) (DE.op (de_op op_mulW (@rs_mulI _) (do_name 4) (do_name 6)))) (de_name 7) (pv 2))))))) (dss_frz 2 (dss_one (ds_ret (de_fnK K rfl (G_told_polynomial.mono (by decide)) hr hG Z.f_told_polynomial.m Z.f_told_polynomial.F.kp Z.f_told_polynomial.b (by rfl) (db_cons (de_name 2) (db_nil)))))))⟩) hw
def wb_product_of (wf_polynomial_product wf_line_of : WF) : WS :=
  wSeq (wAsg (wTup (wCons (wTup (wCons (w2 gRepT (wTup (wCons (wC (.int 0)) (wNil))) (w2 gSubI (w2 gIxA (wB 0) (wC (.int 0))) (wC (.int 1)))) (wCons (wC (.int 1)) (wNil)))) (wNil))) (wGn 2)) (wSeq (wFor (wItems (wN 1)) (wGn 3) (wAsg (wFn 2 wf_polynomial_product (wCons (wN 2) (wCons (wFn 2 wf_line_of (wCons (wN 0) (wCons (wN 3) (wNil)))) (wNil)))) (wGn 2))) (wRet (wN 2)))
theorem wk_product_of (Z : Fs K mg) {wf_polynomial_product wf_line_of : WF} {wf : WF} (G_polynomial_product : FnG P w K mg base 2 Z.f_polynomial_product.a Z.f_polynomial_product.d ["one", "other"] (spW K 2 wf_polynomial_product)) (G_line_of : FnG P w K mg base 2 Z.f_line_of.a Z.f_line_of.d ["frame", "road"] (spW K 2 wf_line_of)) (hw : ∀ ds Q, ds.length = 2 → wf ds Q → wb_product_of wf_polynomial_product wf_line_of { nx := fun _ => Q .none, rt := Q } (startE ["frame", "lot", "found", "road"] (ds.map .fz))) : FnG P w K mg base 3 Z.f_product_of.a Z.f_product_of.d ["frame", "lot"] (spW K 2 wf) :=
  fn_pure (wf := wf) (wb := wb_product_of wf_polynomial_product wf_line_of) Z.f_product_of.F sc_product_of (fun cdv A outer s H hr hG => ⟨_,
    dss_cons (ds_set 2 sc_product_of.nd (de_tup (db_cons (de_tup (db_cons (de_op (op_repA K rfl) (@rs_repT _) (DE.op (de_tup (db_cons (de_int) (db_nil)))) (DE.op (de_op op_sub (@rs_subI _) (DE.op (de_ixK K rfl (un1 hr) (fun _ _ => rfl) (do_name 0) (de_int))) (DE.op (de_int))))) (db_cons (de_int) (db_nil)))) (db_nil)))) (dss_cons (ds_for PassesOwn.never rfl (di_itemsK K rfl (de_name 1)) (dg_name 3 sc_product_of.nd) (dss_one (ds_set 2 sc_product_of.nd (de_fnK K rfl (G_polynomial_product.mono (by decide)) hr hG Z.f_polynomial_product.m Z.f_polynomial_product.F.kp Z.f_polynomial_product.b (by rfl) (db_cons (de_name 2) (db_cons (de_fnK K rfl (G_line_of.mono (by decide)) hr hG Z.f_line_of.m Z.f_line_of.F.kp Z.f_line_of.b (by rfl) (db_cons (de_name 0) (db_cons (de_name 3) (db_nil)))) (db_nil))))))) (dss_one (ds_ret (de_name 2))))⟩) hw
def wb_all_roads : WS :=
  wRet (wTupRg (wR1 (wCall gLenX (wCons (w2 gIxA (wB 0) (wC (.int 1))) (wNil)))))
theorem wk_all_roads (Z : Fs K mg) {wf : WF} (hw : ∀ ds Q, ds.length = 1 → wf ds Q → wb_all_roads { nx := fun _ => Q .none, rt := Q } (startE ["frame"] (ds.map .fz))) : FnG P w K mg base 1 Z.f_all_roads.a Z.f_all_roads.d ["frame"] (spW K 1 wf) :=
  fn_pure (wf := wf) (wb := wb_all_roads) Z.f_all_roads.F sc_all_roads (fun cdv A outer s H hr hG => ⟨_,
    dss_one (ds_ret (de_tupRg rfl (by rfl) Z.n_tuple (drg_1 (by rfl) Z.n_range (DE.op (de_callB (cr_lenX K rfl) (@cs_lenX _) boot_len (by rfl) Z.n_len (da_cons (DE.op (de_ixK K rfl (un1 hr) (fun _ _ => rfl) (do_name 0) (de_int))) (da_nil)))))))⟩) hw
def wb_road_lots (wf_all_roads : WF) : WS :=
  wSeq (wAsg (wLst (wCons (wTup (wNil)) (wNil))) (wGn 1)) (wSeq (wFor (wItems (wFn 1 wf_all_roads (wCons (wN 0) (wNil)))) (wGn 2) (wAsg (w2 gCat (wB 1) (wLc (wItems (wN 1)) (wGn 3) (wYes) (wTup (wStar (wB 3) (wCons (wN 2) (wNil)))) [3])) (wGn 1))) (wRet (wCall gSorted (wCons (wB 1) (wNil)))))
theorem wk_road_lots (Z : Fs K mg) {wf_all_roads : WF} {wf : WF} (G_all_roads : FnG P w K mg base 1 Z.f_all_roads.a Z.f_all_roads.d ["frame"] (spW K 1 wf_all_roads)) (hw : ∀ ds Q, ds.length = 1 → wf ds Q → wb_road_lots wf_all_roads { nx := fun _ => Q .none, rt := Q } (startE ["frame", "found", "road", "lot"] (ds.map .fz))) : FnG P w K mg base 2 Z.f_road_lots.a Z.f_road_lots.d ["frame"] (spW K 1 wf) :=
  fn_pure (wf := wf) (wb := wb_road_lots wf_all_roads) Z.f_road_lots.F sc_road_lots (fun cdv A outer s H hr hG => ⟨_,
    dss_cons (ds_set 1 sc_road_lots.nd (DL.fr (dl_lst (db_cons (de_tup (db_nil)) (db_nil))))) (dss_cons (ds_for PassesOwn.never rfl (di_itemsK K rfl (de_fnK K rfl (G_all_roads.mono (by decide)) hr hG Z.f_all_roads.m Z.f_all_roads.F.kp Z.f_all_roads.b (by rfl) (db_cons (de_name 0) (db_nil)))) (dg_name 2 sc_road_lots.nd) (dss_one (ds_set 1 sc_road_lots.nd (DL.fr (dl_op op_cat (@rs_cat _) (do_name 1) (DL.op (dl_lcV rfl sc_road_lots.nd (di_itemsK K rfl (de_name 1)) [("lot", 3)] (blkOk_by (N := ["frame", "found", "road", "lot"]) (sc := defScope s_road_lots) (by decide +kernel)) (fun _ _ _ _ _ => dg_name 3 sc_road_lots.nd) (fun _ _ _ _ _ => dtt_nil) (fun _ _ _ _ _ => de_tup (db_star K rfl (do_name 3) (db_cons (de_name 2) (db_nil)))) (by decide)))))))) (dss_one (ds_ret (DL.fr (dl_callB (cr_sortedK K rfl rfl (un70 hr)) (@cs_sorted _) bt_sorted (by rfl) Z.n_sorted (da_cons (do_name 1) (da_nil)))))))⟩) hw
def wb_heads_by : WS :=
  wSeq (wAsg (wLstRg (wR1 (w2 gIxA (wB 0) (wC (.int 0))))) (wGn 2)) (wSeq (wFor (wItems (wN 1)) (wGn 3) (wSeq (wAsg (wCall gSorted (wCons (wLc (wItems (w2 gIxA (w2 gIxA (wB 0) (wC (.int 1))) (wN 3))) (wGn 6) (wYes) (w2 gIxA (wB 2) (wN 6)) [6]) (wNil))) (wGt 2 (wGcons (wGn 4) (wGcons (wGn 5) (wGnil))))) (wAsg (wLc (wItems (wN 2)) (wGn 7) (wYes) (wIfE (wTrB (w2 gEq (wB 7) (wB 5))) (wN 4) (wN 7)) [7]) (wGn 2)))) (wRet (wN 2)))
theorem wk_heads_by (Z : Fs K mg) {wf : WF} (hw : ∀ ds Q, ds.length = 2 → wf ds Q → wb_heads_by { nx := fun _ => Q .none, rt := Q } (startE ["frame", "lot", "heads", "road", "low", "high", "crossing", "head"] (ds.map .fz))) : FnG P w K mg base 1 Z.f_heads_by.a Z.f_heads_by.d ["frame", "lot"] (spW K 2 wf) :=
  fn_pure (wf := wf) (wb := wb_heads_by) Z.f_heads_by.F sc_heads_by (fun cdv A outer s H hr hG => ⟨_,
    dss_cons (ds_set 2 sc_heads_by.nd (DL.fr (dl_listRg rfl (by rfl) Z.n_list (drg_1 (by rfl) Z.n_range (DE.op (de_ixK K rfl (un1 hr) (fun _ _ => rfl) (do_name 0) (de_int))))))) (dss_cons (ds_for PassesOwn.never rfl (di_itemsK K rfl (de_name 1)) (dg_name 3 sc_heads_by.nd) (dss_cons (ds_asg (DL.fr (dl_callB (cr_sortedK K rfl rfl (un70 hr)) (@cs_sorted _) bt_sorted (by rfl) Z.n_sorted (da_cons (DL.op (dl_lcV rfl sc_heads_by.nd (di_itemsK K rfl (de_ixK K rfl (un1 hr) (fun _ _ => rfl) (DE.op (de_ixK K rfl (un1 hr) (fun _ _ => rfl) (do_name 0) (de_int))) (de_name 3))) [("crossing", 6)] (blkOk_by (N := ["frame", "lot", "heads", "road", "low", "high", "crossing", "head"]) (sc := defScope s_heads_by) (by decide +kernel)) (fun _ _ _ _ _ => dg_name 6 sc_heads_by.nd) (fun _ _ _ _ _ => dtt_nil) (fun _ _ _ _ _ => de_ixK K rfl (un1 hr) (fun _ _ => rfl) (do_name 2) (de_name 6)) (by decide))) (da_nil)))) (dg_tupK K rfl rfl (dgs_cons (dg_name 4 sc_heads_by.nd) (dgs_cons (dg_name 5 sc_heads_by.nd) (dgs_nil))))) (dss_one (ds_set 2 sc_heads_by.nd (DL.fr (dl_lcV rfl sc_heads_by.nd (di_itemsK K rfl (de_name 2)) [("head", 7)] (blkOk_by (N := ["frame", "lot", "heads", "road", "low", "high", "crossing", "head"]) (sc := defScope s_heads_by) (by decide +kernel)) (fun _ _ _ _ _ => dg_name 7 sc_heads_by.nd) (fun _ _ _ _ _ => dtt_nil) (fun _ _ _ _ _ => de_ifExp (dt_cmp (op_eqK K rfl (un64 hr)) (@rs_eq _) (by rfl) (do_name 7) (do_name 5)) (de_name 4) (de_name 7)) (by decide))))))) (dss_one (ds_ret (de_name 2))))⟩) hw
def wb_pieces_by (wf_heads_by : WF) : WS :=
  wSeq (wPar [2, 3] (wMFz (wFn 2 wf_heads_by (wCons (wN 0) (wCons (wN 1) (wNil)))) (wMOw (wLst (wNil)) (wMNil)))) (wSeq (wFor (wRng1 (w2 gIxA (wB 0) (wC (.int 0)))) (wGn 4) (wIf (wTrB (w2 gEq (w2 gIxA (wB 2) (wN 4)) (wB 4))) (wMutE 3 gAppend (wCons (wCall gTuple (wCons (wLc (wRng1 (w2 gIxA (wB 0) (wC (.int 0)))) (wGn 5) (wTrB (w2 gEq (w2 gIxA (wB 2) (wN 5)) (wB 4))) (wN 5) [5]) (wNil))) (wNil)) (fun _ η Q => Q η)) (wNext))) (wRet (wCall gTuple (wCons (wB 3) (wNil)))))
theorem wk_pieces_by (Z : Fs K mg) {wf_heads_by : WF} {wf : WF} (G_heads_by : FnG P w K mg base 1 Z.f_heads_by.a Z.f_heads_by.d ["frame", "lot"] (spW K 2 wf_heads_by)) (hw : ∀ ds Q, ds.length = 2 → wf ds Q → wb_pieces_by wf_heads_by { nx := fun _ => Q .none, rt := Q } (startE ["frame", "lot", "heads", "found", "first", "crossing"] (ds.map .fz))) : FnG P w K mg base 2 Z.f_pieces_by.a Z.f_pieces_by.d ["frame", "lot"] (spW K 2 wf) :=
  fn_pure (wf := wf) (wb := wb_pieces_by wf_heads_by) Z.f_pieces_by.F sc_pieces_by (fun cdv A outer s H hr hG => ⟨_,
    dss_cons (ds_parT rfl (dm_fz (de_fnK K rfl (G_heads_by.mono (by decide)) hr hG Z.f_heads_by.m Z.f_heads_by.F.kp Z.f_heads_by.b (by rfl) (db_cons (de_name 0) (db_cons (de_name 1) (db_nil)))) (dm_ow (dl_lst (db_nil)) (dm_nil))) (pgn_cons 2 sc_pieces_by.nd (pgn_cons 3 sc_pieces_by.nd (pgn_nil)))) (dss_cons (ds_for PassesOwn.never rfl (di_range1 (by rfl) Z.n_range (DE.op (de_ixK K rfl (un1 hr) (fun _ _ => rfl) (do_name 0) (de_int)))) (dg_name 4 sc_pieces_by.nd) (dss_one (ds_if (dt_cmp (op_eqK K rfl (un64 hr)) (@rs_eq _) (by rfl) (DE.op (de_ixK K rfl (un1 hr) (fun _ _ => rfl) (do_name 2) (de_name 4))) (do_name 4)) (dss_one (ds_append 3 (db_cons (de_callT (cr_tupleK K rfl) (@cs_tuple _) boot_tuple (by rfl) Z.n_tuple (da_cons (DL.op (dl_lcV rfl sc_pieces_by.nd (di_range1 (by rfl) Z.n_range (DE.op (de_ixK K rfl (un1 hr) (fun _ _ => rfl) (do_name 0) (de_int)))) [("crossing", 5)] (blkOk_by (N := ["frame", "lot", "heads", "found", "first", "crossing"]) (sc := defScope s_pieces_by) (by decide +kernel)) (fun _ _ _ _ _ => dg_name 5 sc_pieces_by.nd) (fun _ _ _ _ _ => dtt_one (dt_cmp (op_eqK K rfl (un64 hr)) (@rs_eq _) (by rfl) (DE.op (de_ixK K rfl (un1 hr) (fun _ _ => rfl) (do_name 2) (de_name 5))) (do_name 4))) (fun _ _ _ _ _ => de_name 5) (by decide))) (da_nil))) (db_nil)) (pv 3))) (dss_nil)))) (dss_one (ds_ret (de_callT (cr_tupleK K rfl) (@cs_tuple _) boot_tuple (by rfl) Z.n_tuple (da_cons (do_name 3) (da_nil))))))⟩) hw
def wb_piece_count (wf_pieces_by : WF) : WS :=
  wRet (wCall gLenX (wCons (wFn 2 wf_pieces_by (wCons (wN 0) (wCons (wN 1) (wNil)))) (wNil)))
theorem wk_piece_count (Z : Fs K mg) {wf_pieces_by : WF} {wf : WF} (G_pieces_by : FnG P w K mg base 2 Z.f_pieces_by.a Z.f_pieces_by.d ["frame", "lot"] (spW K 2 wf_pieces_by)) (hw : ∀ ds Q, ds.length = 2 → wf ds Q → wb_piece_count wf_pieces_by { nx := fun _ => Q .none, rt := Q } (startE ["frame", "lot"] (ds.map .fz))) : FnG P w K mg base 3 Z.f_piece_count.a Z.f_piece_count.d ["frame", "lot"] (spW K 2 wf) :=
  fn_pure (wf := wf) (wb := wb_piece_count wf_pieces_by) Z.f_piece_count.F sc_piece_count (fun cdv A outer s H hr hG => ⟨_,
    dss_one (ds_ret (de_callB (cr_lenX K rfl) (@cs_lenX _) boot_len (by rfl) Z.n_len (da_cons (DE.op (de_fnK K rfl (G_pieces_by.mono (by decide)) hr hG Z.f_pieces_by.m Z.f_pieces_by.F.kp Z.f_pieces_by.b (by rfl) (db_cons (de_name 0) (db_cons (de_name 1) (db_nil))))) (da_nil))))⟩) hw
def wb_is_whole_lot (wf_piece_count wf_all_roads : WF) : WS :=
  wRet (w2 gEq (wFn 2 wf_piece_count (wCons (wN 0) (wCons (wCall gTuple (wCons (wLc (wItems (wFn 1 wf_all_roads (wCons (wN 0) (wNil)))) (wGn 2) (wTrB (w2 (gInA true) (wN 2) (wB 1))) (wN 2) [2]) (wNil))) (wNil)))) (wC (.int 1)))
theorem wk_is_whole_lot (Z : Fs K mg) {wf_piece_count wf_all_roads : WF} {wf : WF} (G_piece_count : FnG P w K mg base 3 Z.f_piece_count.a Z.f_piece_count.d ["frame", "lot"] (spW K 2 wf_piece_count)) (G_all_roads : FnG P w K mg base 1 Z.f_all_roads.a Z.f_all_roads.d ["frame"] (spW K 1 wf_all_roads)) (hw : ∀ ds Q, ds.length = 2 → wf ds Q → wb_is_whole_lot wf_piece_count wf_all_roads { nx := fun _ => Q .none, rt := Q } (startE ["frame", "lot", "road"] (ds.map .fz))) : FnG P w K mg base 4 Z.f_is_whole_lot.a Z.f_is_whole_lot.d ["frame", "lot"] (spW K 2 wf) :=
  fn_pure (wf := wf) (wb := wb_is_whole_lot wf_piece_count wf_all_roads) Z.f_is_whole_lot.F sc_is_whole_lot (fun cdv A outer s H hr hG => ⟨_,
    dss_one (ds_ret (de_cmp (op_eqK K rfl (un64 hr)) (@rs_eq _) (by rfl) (DE.op (de_fnK K rfl (G_piece_count.mono (by decide)) hr hG Z.f_piece_count.m Z.f_piece_count.F.kp Z.f_piece_count.b (by rfl) (db_cons (de_name 0) (db_cons (de_callT (cr_tupleK K rfl) (@cs_tuple _) boot_tuple (by rfl) Z.n_tuple (da_cons (DL.op (dl_lcV rfl sc_is_whole_lot.nd (di_itemsK K rfl (de_fnK K rfl (G_all_roads.mono (by decide)) hr hG Z.f_all_roads.m Z.f_all_roads.F.kp Z.f_all_roads.b (by rfl) (db_cons (de_name 0) (db_nil)))) [("road", 2)] (blkOk_by (N := ["frame", "lot", "road"]) (sc := defScope s_is_whole_lot) (by decide +kernel)) (fun _ _ _ _ _ => dg_name 2 sc_is_whole_lot.nd) (fun _ _ _ _ _ => dtt_one (dt_cmp1 (op_notInK K rfl (un65 hr)) (@rs_notIn _) (by rfl) (de_name 2) (do_name 1))) (fun _ _ _ _ _ => de_name 2) (by decide))) (da_nil))) (db_nil))))) (DE.op (de_int))))⟩) hw
def wb_whole_lots (wf_road_lots wf_is_whole_lot : WF) : WS :=
  wRet (wLc (wItems (wFn 1 wf_road_lots (wCons (wN 0) (wNil)))) (wGn 1) (wTr (wFn 2 wf_is_whole_lot (wCons (wN 0) (wCons (wN 1) (wNil))))) (wN 1) [1])
theorem wk_whole_lots (Z : Fs K mg) {wf_road_lots wf_is_whole_lot : WF} {wf : WF} (G_road_lots : FnG P w K mg base 2 Z.f_road_lots.a Z.f_road_lots.d ["frame"] (spW K 1 wf_road_lots)) (G_is_whole_lot : FnG P w K mg base 4 Z.f_is_whole_lot.a Z.f_is_whole_lot.d ["frame", "lot"] (spW K 2 wf_is_whole_lot)) (hw : ∀ ds Q, ds.length = 1 → wf ds Q → wb_whole_lots wf_road_lots wf_is_whole_lot { nx := fun _ => Q .none, rt := Q } (startE ["frame", "lot"] (ds.map .fz))) : FnG P w K mg base 5 Z.f_whole_lots.a Z.f_whole_lots.d ["frame"] (spW K 1 wf) :=
  fn_pure (wf := wf) (wb := wb_whole_lots wf_road_lots wf_is_whole_lot) Z.f_whole_lots.F sc_whole_lots (fun cdv A outer s H hr hG => ⟨_,
    dss_one (ds_ret (DL.fr (dl_lcV rfl sc_whole_lots.nd (di_itemsK K rfl (de_fnK K rfl (G_road_lots.mono (by decide)) hr hG Z.f_road_lots.m Z.f_road_lots.F.kp Z.f_road_lots.b (by rfl) (db_cons (de_name 0) (db_nil)))) [("lot", 1)] (blkOk_by (N := ["frame", "lot"]) (sc := defScope s_whole_lots) (by decide +kernel)) (fun _ _ _ _ _ => dg_name 1 sc_whole_lots.nd) (fun _ _ _ _ _ => dtt_one (dt_truthK K rfl (DE.op (de_fnK K rfl (G_is_whole_lot.mono (by decide)) hr hG Z.f_is_whole_lot.m Z.f_is_whole_lot.F.kp Z.f_is_whole_lot.b (by rfl) (db_cons (de_name 0) (db_cons (de_name 1) (db_nil))))))) (fun _ _ _ _ _ => de_name 1) (by decide))))⟩) hw
def wb_is_free_lot (wf_piece_count : WF) : WS :=
  wRet (w2 gEq (wFn 2 wf_piece_count (wCons (wN 0) (wCons (wN 1) (wNil)))) (w2 gSubI (w2 gIxA (wB 0) (wC (.int 0))) (wCall gLenX (wCons (wB 1) (wNil)))))
theorem wk_is_free_lot (Z : Fs K mg) {wf_piece_count : WF} {wf : WF} (G_piece_count : FnG P w K mg base 3 Z.f_piece_count.a Z.f_piece_count.d ["frame", "lot"] (spW K 2 wf_piece_count)) (hw : ∀ ds Q, ds.length = 2 → wf ds Q → wb_is_free_lot wf_piece_count { nx := fun _ => Q .none, rt := Q } (startE ["frame", "lot"] (ds.map .fz))) : FnG P w K mg base 4 Z.f_is_free_lot.a Z.f_is_free_lot.d ["frame", "lot"] (spW K 2 wf) :=
  fn_pure (wf := wf) (wb := wb_is_free_lot wf_piece_count) Z.f_is_free_lot.F sc_is_free_lot (fun cdv A outer s H hr hG => ⟨_,
    dss_one (ds_ret (de_cmp (op_eqK K rfl (un64 hr)) (@rs_eq _) (by rfl) (DE.op (de_fnK K rfl (G_piece_count.mono (by decide)) hr hG Z.f_piece_count.m Z.f_piece_count.F.kp Z.f_piece_count.b (by rfl) (db_cons (de_name 0) (db_cons (de_name 1) (db_nil))))) (DE.op (de_op op_sub (@rs_subI _) (DE.op (de_ixK K rfl (un1 hr) (fun _ _ => rfl) (do_name 0) (de_int))) (DE.op (de_callB (cr_lenX K rfl) (@cs_lenX _) boot_len (by rfl) Z.n_len (da_cons (do_name 1) (da_nil))))))))⟩) hw
def wb_free_lots_told (wf_road_lots wf_is_free_lot : WF) : WS :=
  wRet (wLc (wItems (wFn 1 wf_road_lots (wCons (wN 0) (wNil)))) (wGn 1) (wTr (wFn 2 wf_is_free_lot (wCons (wN 0) (wCons (wN 1) (wNil))))) (wN 1) [1])
theorem wk_free_lots_told (Z : Fs K mg) {wf_road_lots wf_is_free_lot : WF} {wf : WF} (G_road_lots : FnG P w K mg base 2 Z.f_road_lots.a Z.f_road_lots.d ["frame"] (spW K 1 wf_road_lots)) (G_is_free_lot : FnG P w K mg base 4 Z.f_is_free_lot.a Z.f_is_free_lot.d ["frame", "lot"] (spW K 2 wf_is_free_lot)) (hw : ∀ ds Q, ds.length = 1 → wf ds Q → wb_free_lots_told wf_road_lots wf_is_free_lot { nx := fun _ => Q .none, rt := Q } (startE ["frame", "lot"] (ds.map .fz))) : FnG P w K mg base 5 Z.f_free_lots_told.a Z.f_free_lots_told.d ["frame"] (spW K 1 wf) :=
  fn_pure (wf := wf) (wb := wb_free_lots_told wf_road_lots wf_is_free_lot) Z.f_free_lots_told.F sc_free_lots_told (fun cdv A outer s H hr hG => ⟨_,
    dss_one (ds_ret (DL.fr (dl_lcV rfl sc_free_lots_told.nd (di_itemsK K rfl (de_fnK K rfl (G_road_lots.mono (by decide)) hr hG Z.f_road_lots.m Z.f_road_lots.F.kp Z.f_road_lots.b (by rfl) (db_cons (de_name 0) (db_nil)))) [("lot", 1)] (blkOk_by (N := ["frame", "lot"]) (sc := defScope s_free_lots_told) (by decide +kernel)) (fun _ _ _ _ _ => dg_name 1 sc_free_lots_told.nd) (fun _ _ _ _ _ => dtt_one (dt_truthK K rfl (DE.op (de_fnK K rfl (G_is_free_lot.mono (by decide)) hr hG Z.f_is_free_lot.m Z.f_is_free_lot.F.kp Z.f_is_free_lot.b (by rfl) (db_cons (de_name 0) (db_cons (de_name 1) (db_nil))))))) (fun _ _ _ _ _ => de_name 1) (by decide))))⟩) hw
def wb_all_products (wf_road_lots wf_product_of : WF) : WS :=
  wRet (wCall gTuple (wCons (wLc (wItems (wFn 1 wf_road_lots (wCons (wN 0) (wNil)))) (wGn 1) (wYes) (wFn 2 wf_product_of (wCons (wN 0) (wCons (wN 1) (wNil)))) [1]) (wNil)))
theorem wk_all_products (Z : Fs K mg) {wf_road_lots wf_product_of : WF} {wf : WF} (G_road_lots : FnG P w K mg base 2 Z.f_road_lots.a Z.f_road_lots.d ["frame"] (spW K 1 wf_road_lots)) (G_product_of : FnG P w K mg base 3 Z.f_product_of.a Z.f_product_of.d ["frame", "lot"] (spW K 2 wf_product_of)) (hw : ∀ ds Q, ds.length = 1 → wf ds Q → wb_all_products wf_road_lots wf_product_of { nx := fun _ => Q .none, rt := Q } (startE ["frame", "lot"] (ds.map .fz))) : FnG P w K mg base 4 Z.f_all_products.a Z.f_all_products.d ["frame"] (spW K 1 wf) :=
  fn_pure (wf := wf) (wb := wb_all_products wf_road_lots wf_product_of) Z.f_all_products.F sc_all_products (fun cdv A outer s H hr hG => ⟨_,
    dss_one (ds_ret (de_callT (cr_tupleK K rfl) (@cs_tuple _) boot_tuple (by rfl) Z.n_tuple (da_cons (DL.op (dl_lcV rfl sc_all_products.nd (di_itemsK K rfl (de_fnK K rfl (G_road_lots.mono (by decide)) hr hG Z.f_road_lots.m Z.f_road_lots.F.kp Z.f_road_lots.b (by rfl) (db_cons (de_name 0) (db_nil)))) [("lot", 1)] (blkOk_by (N := ["frame", "lot"]) (sc := defScope s_all_products) (by decide +kernel)) (fun _ _ _ _ _ => dg_name 1 sc_all_products.nd) (fun _ _ _ _ _ => dtt_nil) (fun _ _ _ _ _ => de_fnK K rfl (G_product_of.mono (by decide)) hr hG Z.f_product_of.m Z.f_product_of.F.kp Z.f_product_of.b (by rfl) (db_cons (de_name 0) (db_cons (de_name 1) (db_nil)))) (by decide))) (da_nil))))⟩) hw
def wb_whole_products (wf_whole_lots wf_product_of : WF) : WS :=
  wRet (wCall gTuple (wCons (wLc (wItems (wFn 1 wf_whole_lots (wCons (wN 0) (wNil)))) (wGn 1) (wYes) (wFn 2 wf_product_of (wCons (wN 0) (wCons (wN 1) (wNil)))) [1]) (wNil)))
theorem wk_whole_products (Z : Fs K mg) {wf_whole_lots wf_product_of : WF} {wf : WF} (G_whole_lots : FnG P w K mg base 5 Z.f_whole_lots.a Z.f_whole_lots.d ["frame"] (spW K 1 wf_whole_lots)) (G_product_of : FnG P w K mg base 3 Z.f_product_of.a Z.f_product_of.d ["frame", "lot"] (spW K 2 wf_product_of)) (hw : ∀ ds Q, ds.length = 1 → wf ds Q → wb_whole_products wf_whole_lots wf_product_of { nx := fun _ => Q .none, rt := Q } (startE ["frame", "lot"] (ds.map .fz))) : FnG P w K mg base 6 Z.f_whole_products.a Z.f_whole_products.d ["frame"] (spW K 1 wf) :=
  fn_pure (wf := wf) (wb := wb_whole_products wf_whole_lots wf_product_of) Z.f_whole_products.F sc_whole_products (fun cdv A outer s H hr hG => ⟨_,
    dss_one (ds_ret (de_callT (cr_tupleK K rfl) (@cs_tuple _) boot_tuple (by rfl) Z.n_tuple (da_cons (DL.op (dl_lcV rfl sc_whole_products.nd (di_itemsK K rfl (de_fnK K rfl (G_whole_lots.mono (by decide)) hr hG Z.f_whole_lots.m Z.f_whole_lots.F.kp Z.f_whole_lots.b (by rfl) (db_cons (de_name 0) (db_nil)))) [("lot", 1)] (blkOk_by (N := ["frame", "lot"]) (sc := defScope s_whole_products) (by decide +kernel)) (fun _ _ _ _ _ => dg_name 1 sc_whole_products.nd) (fun _ _ _ _ _ => dtt_nil) (fun _ _ _ _ _ => de_fnK K rfl (G_product_of.mono (by decide)) hr hG Z.f_product_of.m Z.f_product_of.F.kp Z.f_product_of.b (by rfl) (db_cons (de_name 0) (db_cons (de_name 1) (db_nil)))) (by decide))) (da_nil))))⟩) hw
theorem wk__law_source (Z : Fs K mg) : FnG P w K mg base 1 Z.f__law_source.a Z.f__law_source.d ["script"] (spSource K) := fn_source Z.f__law_source.F sc__law_source fun cdv A outer s H =>
  pss_cons (ps_set (i := 1) sc__law_source.nd rfl (.inl rfl) pe_int) (pss_cons (ps_for PassesOwn.never rfl (pi_list (pv 0)) (pg_name (i := 2) sc__law_source.nd rfl (.inl rfl)) (pss_one (ps_set (i := 1) sc__law_source.nd rfl (.inl rfl) (pe_op op_mod (pe_callTy call_int1 (by rfl) Z.n_int boot_int (pa_cons (pe_op op_add (pe_op op_add (pe_op op_mul (pv 1) pe_int) (pe_op op_mul (pv 2) pe_int)) pe_int) pa_nil)) pe_int))))
    (pss_one (ps_ret (pe_disp (pps_cons pe_str (pe_revL (pe_lc (own := [("cell", 2)]) (g := gName 2) (tt := tYes) (te := tCB rAbs1 (tCons (tVar 2) tNil)) rfl sc__law_source.nd (pi_list (pv 0)) (blkOk_by (N := ["script", "mixed", "cell"]) (sc := defScope s__law_source) (own := [("cell", 2)]) (by decide +kernel)) (fun _ _ _ _ _ => pg_name (i := 2) sc__law_source.nd rfl (.inl rfl)) (fun _ _ _ _ _ => pts_nil) (fun _ _ _ _ _ => pe_callB call_abs (by rfl) Z.n_abs bt_abs (pa_cons (pv 2) pa_nil)))) (pps_cons pe_str pe_int (pps_cons pe_str (pv 1) (pps_cons pe_str pe_int pps_nil)))) rfl rfl (fun h => nomatch h) (by decide)))))
theorem wk__law_pick (Z : Fs K mg) : FnG P w K mg base 1 Z.f__law_pick.a Z.f__law_pick.d ["source", "many"] (spS K 1 wfPick) := fn_pick Z.f__law_pick.F sc__law_pick fun cdv A outer s H hr =>
  pss_cons (ps_while PassesOwn.never (pw_and (pt_cmpR op_gt (pv 1) (pe_int) (by rfl)) (pw_and (pt_cmpR op_lt (pe_dget (un1 hr) (pv 0) pe_str (fun _ _ => rfl)) (pe_int) (by rfl)) (pw_and1 (pt_cmpR op_gt (pe_callB call_len_seq (by rfl) Z.n_len boot_len (pa_cons (pe_dget (un1 hr) (pv 0) pe_str (fun _ _ => rfl)) pa_nil)) (pe_int) (by rfl))))).pt (pss_one (ps_dput (un1 hr) (pv 0) pe_str (pe_bm0 PySem.F.plainAttrs_list PySem.F.slot_list_pop PySem.F.type_list_pop mt_pop (pe_dget (un1 hr) (pv 0) pe_str (fun _ _ => rfl))) (by rfl))))
  (pss_cons (ps_set (i := 2) sc__law_pick.nd rfl (.inl rfl) (pe_dget (un1 hr) (pv 0) pe_str (fun _ _ => rfl)))
  (pss_cons (ps_if (pw_or (pt_cmpR op_lt (pv 1) (pe_int) (by rfl)) (pw_or1 (pt_cmpR op_gt (pv 2) (pe_int) (by rfl)))).pt (pss_cons (ps_dput (un1 hr) (pv 0) pe_str (pe_op op_fdiv (pv 2) (pe_callB (call_max2 rfl) (by rfl) Z.n_max bt_max (pa_cons pe_int (pa_cons (pv 1) pa_nil)))) (by rfl)) (pss_one (ps_ret (pe_op op_mod (pe_callTy call_int1 (by rfl) Z.n_int boot_int (pa_cons (pv 2) pa_nil)) (pe_callB (call_max2 rfl) (by rfl) Z.n_max bt_max (pa_cons pe_int (pa_cons (pv 1) pa_nil))))))) pss_nil)
  (pss_cons (ps_dput (un1 hr) (pv 0) pe_str (pe_op op_add (pe_dget (un1 hr) (pv 0) pe_str (fun _ _ => rfl)) pe_int) (by rfl))
  (pss_cons (ps_set (i := 3) sc__law_pick.nd rfl (.inl rfl) (pe_op op_mod (pe_callTy call_int1 (by rfl) Z.n_int boot_int (pa_cons (pe_op op_add (pe_dget (un1 hr) (pv 0) pe_str (fun _ _ => rfl)) (pe_op op_mul (pe_dget (un1 hr) (pv 0) pe_str (fun _ _ => rfl)) pe_int)) pa_nil)) pe_int))
  (pss_cons (ps_set (i := 3) sc__law_pick.nd rfl (.inl rfl) (pe_op op_mod (pe_callTy call_int1 (by rfl) Z.n_int boot_int (pa_cons (pe_op op_add (pe_op op_mul (pv 3) (pv 3)) (pe_op op_mul (pe_dget (un1 hr) (pv 0) pe_str (fun _ _ => rfl)) pe_int)) pa_nil)) pe_int))
  (pss_cons (ps_dput (un1 hr) (pv 0) pe_str (pv 3) (by rfl))
  (pss_one (ps_ret (pe_op op_mod (pe_callTy call_int1 (by rfl) Z.n_int boot_int (pa_cons (pe_op op_fdiv (pv 3) pe_int) pa_nil)) (pv 1)))))))))) 
theorem wk__law_mixed (Z : Fs K mg) (G_pick : FnG P w K mg base 1 Z.f__law_pick.a Z.f__law_pick.d ["source", "many"] (spS K 1 wfPick)) : FnG P w K mg base 2 Z.f__law_mixed.a Z.f__law_mixed.d ["source", "things"] (spS K 1 wfMixed) := fn_mixed Z.f__law_mixed.F sc__law_mixed fun cdv A outer s H hr hG =>
  pss_cons (ps_set (i := 2) sc__law_mixed.nd rfl (.inr rfl) (pe_callTy call_list_of (by rfl) Z.n_list boot_list (pa_cons (pv 1) pa_nil))) (pss_one (ps_ret (pe_lc (own := [("lap", 3)]) (g := gName 3) (tt := tYes) (te := tBM K "list" rPopAt (tVar 2) (tCons (tPickLen K 0 2) tNil)) rfl sc__law_mixed.nd (pi_range1 (by rfl) Z.n_range (pa_cons (pe_callB call_len_seq (by rfl) Z.n_len boot_len (pa_cons (pv 2) pa_nil)) pa_nil)) (blkOk_by (N := ["source", "things", "rest", "lap"]) (sc := defScope s__law_mixed) (own := [("lap", 3)]) (by decide +kernel)) (fun _ _ _ _ _ => pg_name (i := 3) sc__law_mixed.nd rfl (.inl rfl) (.inr rfl)) (fun _ _ _ _ _ => pts_nil)
    (fun _ _ _ _ _ => pe_bm PySem.F.plainAttrs_list PySem.F.slot_list_pop PySem.F.type_list_pop mt_popAt (pv 2) (pa_cons (pe_callG (G_pick.mono (by decide)) hr hG (by rfl) Z.f__law_pick.m Z.f__law_pick.F.kp Z.f__law_pick.b (pa_cons (pv 0) (pa_cons (pe_callB call_len_seq (by rfl) Z.n_len boot_len (pa_cons (pv 2) pa_nil)) pa_nil))) pa_nil)))))
def wb__law_hung : WS :=
  wSeq (wPar [3, 4] (wMFz (w2 gAdd (wC (.int 1)) (wFnS 0 1 wfPick (wCons (wN 1) (wNil)))) (wMOw (wLst (wNil)) (wMNil)))) (wSeq (wAsg (wFnS 0 1 wfMixed (wCons (wLstRg (wR1 (wB 3))) (wNil))) (wGn 5)) (wSeq (wFor (wRng2 (wC (.int 1)) (wB 3)) (wGn 6) (wMutE 4 gAppend (wCons (wTup (wCons (w2 gIxA (wB 5) (wFnS 0 1 wfPick (wCons (wN 6) (wNil)))) (wCons (w2 gIxA (wB 5) (wN 6)) (wNil)))) (wNil)) (fun _ η Q => Q η))) (wSeq (wFor (wRng1 (wFnS 0 1 wfPick (wCons (wCall gMax2 (wCons (wC (.int 1)) (wCons (w2 gAdd (w2 gSubI (wB 2) (wB 3)) (wC (.int 2))) (wNil)))) (wNil)))) (wGn 7) (wMutE 4 gAppend (wCons (wTup (wCons (wFnS 0 1 wfPick (wCons (wN 3) (wNil))) (wCons (wFnS 0 1 wfPick (wCons (wN 3) (wNil))) (wNil)))) (wNil)) (fun _ η Q => Q η))) (wFrz 4 (wSeq (wAsgL (wLc (wItems (wFnS 0 1 wfMixed (wCons (wN 4) (wNil)))) (wGn 8) (wYes) (wIfE (wTrB (w2 gEq (wFnS 0 1 wfPick (wCons (wC (.int 2)) (wNil))) (wC (.int 0)))) (wRevT (wN 8)) (wN 8)) [8]) 4) (wRet (wTup (wCons (wN 3) (wCons (wCall gTuple (wCons (wB 4) (wNil))) (wNil))))))))))
theorem wk__law_hung (Z : Fs K mg) {wf : WF} (G__law_pick : FnG P w K mg base 1 Z.f__law_pick.a Z.f__law_pick.d ["source", "many"] (spS K 1 wfPick)) (G__law_mixed : FnG P w K mg base 2 Z.f__law_mixed.a Z.f__law_mixed.d ["source", "things"] (spS K 1 wfMixed)) (hw : ∀ ds Q, ds.length = 2 → wf ds Q → wb__law_hung { nx := fun _ => Q .none, rt := Q } (startE ["source", "crossings", "roads", "n", "pairs", "names", "k", "lap", "pair"] (.src :: ds.map .fz))) : FnG P w K mg base 3 Z.f__law_hung.a Z.f__law_hung.d ["source", "crossings", "roads"] (spS K 2 wf) :=
  fn_src (wf := wf) (wb := wb__law_hung) Z.f__law_hung.F sc__law_hung (fun cdv A outer s H hr hG => ⟨_,
    dss_cons (ds_par2 3 4 rfl sc__law_hung.nd (dm_fz (de_op (op_addK K rfl) (@rs_add _) (DE.op (de_int)) (DE.op (de_fnSK K rfl 0 (G__law_pick.mono (by decide)) hr hG Z.f__law_pick.m Z.f__law_pick.F.kp Z.f__law_pick.b (by rfl) (pv 0) (db_cons (de_name 1) (db_nil))))) (dm_ow (dl_lst (db_nil)) (dm_nil)))) (dss_cons (ds_set 5 sc__law_hung.nd (de_fnSK K rfl 0 (G__law_mixed.mono (by decide)) hr hG Z.f__law_mixed.m Z.f__law_mixed.F.kp Z.f__law_mixed.b (by rfl) (pv 0) (db_cons (DL.fr (dl_listRg rfl (by rfl) Z.n_list (drg_1 (by rfl) Z.n_range (do_name 3)))) (db_nil)))) (dss_cons (ds_for PassesOwn.never rfl (di_range2 (by rfl) Z.n_range (DE.op (de_int)) (do_name 3)) (dg_name 6 sc__law_hung.nd) (dss_one (ds_append 4 (db_cons (de_tup (db_cons (de_ixK K rfl (un1 hr) (fun _ _ => rfl) (do_name 5) (de_fnSK K rfl 0 (G__law_pick.mono (by decide)) hr hG Z.f__law_pick.m Z.f__law_pick.F.kp Z.f__law_pick.b (by rfl) (pv 0) (db_cons (de_name 6) (db_nil)))) (db_cons (de_ixK K rfl (un1 hr) (fun _ _ => rfl) (do_name 5) (de_name 6)) (db_nil)))) (db_nil)) (pv 4)))) (dss_cons (ds_for PassesOwn.never rfl (di_range1 (by rfl) Z.n_range (DE.op (de_fnSK K rfl 0 (G__law_pick.mono (by decide)) hr hG Z.f__law_pick.m Z.f__law_pick.F.kp Z.f__law_pick.b (by rfl) (pv 0) (db_cons (de_callB (call_max2 rfl) (@cs_max2 _) bt_max (by rfl) Z.n_max (da_cons (DE.op (de_int)) (da_cons (DE.op (de_op (op_addK K rfl) (@rs_add _) (DE.op (de_op op_sub (@rs_subI _) (do_name 2) (do_name 3))) (DE.op (de_int)))) (da_nil)))) (db_nil))))) (dg_name 7 sc__law_hung.nd) (dss_one (ds_append 4 (db_cons (de_tup (db_cons (de_fnSK K rfl 0 (G__law_pick.mono (by decide)) hr hG Z.f__law_pick.m Z.f__law_pick.F.kp Z.f__law_pick.b (by rfl) (pv 0) (db_cons (de_name 3) (db_nil))) (db_cons (de_fnSK K rfl 0 (G__law_pick.mono (by decide)) hr hG Z.f__law_pick.m Z.f__law_pick.F.kp Z.f__law_pick.b (by rfl) (pv 0) (db_cons (de_name 3) (db_nil))) (db_nil)))) (db_nil)) (pv 4)))) (dss_frz 4 (dss_cons (ds_lcL 4 rfl sc__law_hung.nd (di_itemsK K rfl (de_fnSK K rfl 0 (G__law_mixed.mono (by decide)) hr hG Z.f__law_mixed.m Z.f__law_mixed.F.kp Z.f__law_mixed.b (by rfl) (pv 0) (db_cons (de_name 4) (db_nil)))) [("pair", 8)] (blkOk_by (N := ["source", "crossings", "roads", "n", "pairs", "names", "k", "lap", "pair"]) (sc := defScope s__law_hung) (by decide +kernel)) (fun _ _ _ _ _ => dg_name 8 sc__law_hung.nd) (fun _ _ _ _ _ => dtt_nil) (fun _ _ _ _ _ => de_ifExp (dt_cmp (op_eqK K rfl (un64 hr)) (@rs_eq _) (by rfl) (DE.op (de_fnSK K rfl 0 (G__law_pick.mono (by decide)) hr hG Z.f__law_pick.m Z.f__law_pick.F.kp Z.f__law_pick.b (by rfl) (pv 0) (db_cons (de_int) (db_nil)))) (DE.op (de_int))) (de_revTK K rfl (de_name 8)) (de_name 8)) (by decide)) (dss_one (ds_ret (de_tup (db_cons (de_name 3) (db_cons (de_callT (cr_tupleK K rfl) (@cs_tuple _) boot_tuple (by rfl) Z.n_tuple (da_cons (do_name 4) (da_nil))) (db_nil)))))))))))⟩) hw
def wb__law_frame (wf__law_hung : WF) : WS :=
  wSeq (wAsg (w2 gAdd (wC (.int 1)) (wFnS 0 1 wfPick (wCons (wN 1) (wNil)))) (wGn 3)) (wSeq (wIf (wTrB (w2 gGtI (wFnS 0 1 wfPick (wCons (wC (.int 3)) (wNil))) (wC (.int 0)))) (wRet (wFnS 0 2 wf__law_hung (wCons (wN 1) (wCons (wN 2) (wNil))))) (wNext)) (wRet (wTup (wCons (wN 3) (wCons (wCall gTuple (wCons (wLc (wRng1 (wFnS 0 1 wfPick (wCons (w2 gAdd (wB 2) (wC (.int 1))) (wNil)))) (wGn 4) (wYes) (wTup (wCons (wFnS 0 1 wfPick (wCons (wN 3) (wNil))) (wCons (wFnS 0 1 wfPick (wCons (wN 3) (wNil))) (wNil)))) [4]) (wNil))) (wNil))))))
theorem wk__law_frame (Z : Fs K mg) {wf__law_hung : WF} {wf : WF} (G__law_pick : FnG P w K mg base 1 Z.f__law_pick.a Z.f__law_pick.d ["source", "many"] (spS K 1 wfPick)) (G__law_hung : FnG P w K mg base 3 Z.f__law_hung.a Z.f__law_hung.d ["source", "crossings", "roads"] (spS K 2 wf__law_hung)) (hw : ∀ ds Q, ds.length = 2 → wf ds Q → wb__law_frame wf__law_hung { nx := fun _ => Q .none, rt := Q } (startE ["source", "crossings", "roads", "n", "r"] (.src :: ds.map .fz))) : FnG P w K mg base 4 Z.f__law_frame.a Z.f__law_frame.d ["source", "crossings", "roads"] (spS K 2 wf) :=
  fn_src (wf := wf) (wb := wb__law_frame wf__law_hung) Z.f__law_frame.F sc__law_frame (fun cdv A outer s H hr hG => ⟨_,
    dss_cons (ds_set 3 sc__law_frame.nd (de_op (op_addK K rfl) (@rs_add _) (DE.op (de_int)) (DE.op (de_fnSK K rfl 0 (G__law_pick.mono (by decide)) hr hG Z.f__law_pick.m Z.f__law_pick.F.kp Z.f__law_pick.b (by rfl) (pv 0) (db_cons (de_name 1) (db_nil)))))) (dss_cons (ds_if (dt_cmp op_gt (@rs_gtI _) (by rfl) (DE.op (de_fnSK K rfl 0 (G__law_pick.mono (by decide)) hr hG Z.f__law_pick.m Z.f__law_pick.F.kp Z.f__law_pick.b (by rfl) (pv 0) (db_cons (de_int) (db_nil)))) (DE.op (de_int))) (dss_one (ds_ret (de_fnSK K rfl 0 (G__law_hung.mono (by decide)) hr hG Z.f__law_hung.m Z.f__law_hung.F.kp Z.f__law_hung.b (by rfl) (pv 0) (db_cons (de_name 1) (db_cons (de_name 2) (db_nil)))))) (dss_nil)) (dss_one (ds_ret (de_tup (db_cons (de_name 3) (db_cons (de_callT (cr_tupleK K rfl) (@cs_tuple _) boot_tuple (by rfl) Z.n_tuple (da_cons (DL.op (dl_lcV rfl sc__law_frame.nd (di_range1 (by rfl) Z.n_range (DE.op (de_fnSK K rfl 0 (G__law_pick.mono (by decide)) hr hG Z.f__law_pick.m Z.f__law_pick.F.kp Z.f__law_pick.b (by rfl) (pv 0) (db_cons (de_op (op_addK K rfl) (@rs_add _) (do_name 2) (DE.op (de_int))) (db_nil))))) [("r", 4)] (blkOk_by (N := ["source", "crossings", "roads", "n", "r"]) (sc := defScope s__law_frame) (by decide +kernel)) (fun _ _ _ _ _ => dg_name 4 sc__law_frame.nd) (fun _ _ _ _ _ => dtt_nil) (fun _ _ _ _ _ => de_tup (db_cons (de_fnSK K rfl 0 (G__law_pick.mono (by decide)) hr hG Z.f__law_pick.m Z.f__law_pick.F.kp Z.f__law_pick.b (by rfl) (pv 0) (db_cons (de_name 3) (db_nil))) (db_cons (de_fnSK K rfl 0 (G__law_pick.mono (by decide)) hr hG Z.f__law_pick.m Z.f__law_pick.F.kp Z.f__law_pick.b (by rfl) (pv 0) (db_cons (de_name 3) (db_nil))) (db_nil)))) (by decide))) (da_nil))) (db_nil)))))))⟩) hw
def wb__law_told : WS :=
  wRet (wCall gTuple (wCons (wCall gSorted (wCons (wLc (wItems (wN 0)) (wGn 1) (wTrB (w2 gNe (w2 gIxA (wB 0) (wN 1)) (wC (.int 0)))) (wTup (wCons (wN 1) (wCons (w2 gIxA (wB 0) (wN 1)) (wNil)))) [1]) (wNil))) (wNil)))
theorem wk__law_told (Z : Fs K mg) {wf : WF} (hw : ∀ ds Q, ds.length = 1 → wf ds Q → wb__law_told { nx := fun _ => Q .none, rt := Q } (startE ["numbers", "powers"] (ds.map .fz))) : FnG P w K mg base 1 Z.f__law_told.a Z.f__law_told.d ["numbers"] (spW K 1 wf) :=
  fn_pure (wf := wf) (wb := wb__law_told) Z.f__law_told.F sc__law_told (fun cdv A outer s H hr hG => ⟨_,
    dss_one (ds_ret (de_callT (cr_tupleK K rfl) (@cs_tuple _) boot_tuple (by rfl) Z.n_tuple (da_cons (DL.op (dl_callB (cr_sortedK K rfl rfl (un70 hr)) (@cs_sorted _) bt_sorted (by rfl) Z.n_sorted (da_cons (DL.op (dl_lcV rfl sc__law_told.nd (di_itemsK K rfl (de_name 0)) [("powers", 1)] (blkOk_by (N := ["numbers", "powers"]) (sc := defScope s__law_told) (by decide +kernel)) (fun _ _ _ _ _ => dg_name 1 sc__law_told.nd) (fun _ _ _ _ _ => dtt_one (dt_cmp (op_neK K rfl (un64 hr)) (@rs_ne _) (by rfl) (DE.op (de_ixK K rfl (un1 hr) (fun _ _ => rfl) (do_name 0) (de_name 1))) (DE.op (de_int)))) (fun _ _ _ _ _ => de_tup (db_cons (de_name 1) (db_cons (de_ixK K rfl (un1 hr) (fun _ _ => rfl) (do_name 0) (de_name 1)) (db_nil)))) (by decide))) (da_nil)))) (da_nil))))⟩) hw
def wb__law_sum (wf__law_told : WF) : WS :=
  wSeq (wAsgL (wCall gDictX (wCons (wB 0) (wNil))) 3) (wSeq (wFor (wItems (wN 1)) (wGt 2 (wGcons (wGn 4) (wGcons (wGn 5) (wGnil)))) (wStore 3 (wN 4) (w2 gAdd (wGet2 (wB 3) (wN 4) (wC (.int 0))) (w2 gMulI (wB 2) (wB 5))))) (wFrz 3 (wRet (wFn 1 wf__law_told (wCons (wN 3) (wNil))))))
theorem wk__law_sum (Z : Fs K mg) {wf__law_told : WF} {wf : WF} (G__law_told : FnG P w K mg base 1 Z.f__law_told.a Z.f__law_told.d ["numbers"] (spW K 1 wf__law_told)) (hw : ∀ ds Q, ds.length = 3 → wf ds Q → wb__law_sum wf__law_told { nx := fun _ => Q .none, rt := Q } (startE ["one", "other", "times", "found", "powers", "number"] (ds.map .fz))) : FnG P w K mg base 2 Z.f__law_sum.a Z.f__law_sum.d ["one", "other", "times"] (spW K 3 wf) :=
  fn_pure (wf := wf) (wb := wb__law_sum wf__law_told) Z.f__law_sum.F sc__law_sum (fun cdv A outer s H hr hG => ⟨_,
    dss_cons (ds_setD 3 sc__law_sum.nd (dd_callTK K rfl (cr_dictX K rfl rfl (un64 hr)) (@cs_dictX _) boot_dict (by rfl) Z.n_dict (da_cons (do_name 0) (da_nil)))) (dss_cons (ds_for PassesOwn.never rfl (di_itemsK K rfl (de_name 1)) (dg_tupK K rfl rfl (dgs_cons (dg_name 4 sc__law_sum.nd) (dgs_cons (dg_name 5 sc__law_sum.nd) (dgs_nil)))) (dss_one (ds_store 3 (un1 hr) (de_op (op_addK K rfl) (@rs_add _) (DE.op (de_get2 (un1 hr) (do_name 3) (de_name 4) (de_int) ⟨by rfl, by rfl, by rfl, by rfl⟩)) (DE.op (de_op op_mulW (@rs_mulI _) (do_name 2) (do_name 5)))) (de_name 4) (pv 3)))) (dss_frz 3 (dss_one (ds_ret (de_fnK K rfl (G__law_told.mono (by decide)) hr hG Z.f__law_told.m Z.f__law_told.F.kp Z.f__law_told.b (by rfl) (db_cons (de_name 3) (db_nil)))))))⟩) hw
def wb__law_unit : WS :=
  wRet (wIfE (wTrB (w2 gGtI (wB 1) (wC (.int 0)))) (wTup (wCons (wTup (wCons (wCall gTuple (wCons (wLc (wRng2 (wC (.int 1)) (wB 0)) (wGn 2) (wYes) (wCall gInt (wCons (w2 gEq (wB 2) (wB 1)) (wNil))) [2]) (wNil))) (wCons (wC (.int 1)) (wNil)))) (wNil))) (wTup (wNil)))
theorem wk__law_unit (Z : Fs K mg) {wf : WF} (hw : ∀ ds Q, ds.length = 2 → wf ds Q → wb__law_unit { nx := fun _ => Q .none, rt := Q } (startE ["n", "c", "k"] (ds.map .fz))) : FnG P w K mg base 1 Z.f__law_unit.a Z.f__law_unit.d ["n", "c"] (spW K 2 wf) :=
  fn_pure (wf := wf) (wb := wb__law_unit) Z.f__law_unit.F sc__law_unit (fun cdv A outer s H hr hG => ⟨_,
    dss_one (ds_ret (de_ifExp (dt_cmp op_gt (@rs_gtI _) (by rfl) (do_name 1) (DE.op (de_int))) (de_tup (db_cons (de_tup (db_cons (de_callT (cr_tupleK K rfl) (@cs_tuple _) boot_tuple (by rfl) Z.n_tuple (da_cons (DL.op (dl_lcV rfl sc__law_unit.nd (di_range2 (by rfl) Z.n_range (DE.op (de_int)) (do_name 0)) [("k", 2)] (blkOk_by (N := ["n", "c", "k"]) (sc := defScope s__law_unit) (by decide +kernel)) (fun _ _ _ _ _ => dg_name 2 sc__law_unit.nd) (fun _ _ _ _ _ => dtt_nil) (fun _ _ _ _ _ => de_callT call_int1 (@cs_int _) boot_int (by rfl) Z.n_int (da_cons (DE.op (de_cmp (op_eqK K rfl (un64 hr)) (@rs_eq _) (by rfl) (do_name 2) (do_name 1))) (da_nil))) (by decide))) (da_nil))) (db_cons (de_int) (db_nil)))) (db_nil))) (de_tup (db_nil))))⟩) hw
def wb__law_line (wf__law_sum wf__law_unit : WF) : WS :=
  wSeq (wAsg (w2 gIxA (w2 gIxA (wB 0) (wC (.int 1))) (wN 1)) (wGt 2 (wGcons (wGn 2) (wGcons (wGn 3) (wGnil))))) (wRet (wFn 3 wf__law_sum (wCons (wFn 2 wf__law_unit (wCons (w2 gIxA (wB 0) (wC (.int 0))) (wCons (wN 3) (wNil)))) (wCons (wFn 2 wf__law_unit (wCons (w2 gIxA (wB 0) (wC (.int 0))) (wCons (wN 2) (wNil)))) (wCons (w1 gNeg (wC (.int 1))) (wNil))))))
theorem wk__law_line (Z : Fs K mg) {wf__law_sum wf__law_unit : WF} {wf : WF} (G__law_sum : FnG P w K mg base 2 Z.f__law_sum.a Z.f__law_sum.d ["one", "other", "times"] (spW K 3 wf__law_sum)) (G__law_unit : FnG P w K mg base 1 Z.f__law_unit.a Z.f__law_unit.d ["n", "c"] (spW K 2 wf__law_unit)) (hw : ∀ ds Q, ds.length = 2 → wf ds Q → wb__law_line wf__law_sum wf__law_unit { nx := fun _ => Q .none, rt := Q } (startE ["frame", "r", "a", "b"] (ds.map .fz))) : FnG P w K mg base 3 Z.f__law_line.a Z.f__law_line.d ["frame", "r"] (spW K 2 wf) :=
  fn_pure (wf := wf) (wb := wb__law_line wf__law_sum wf__law_unit) Z.f__law_line.F sc__law_line (fun cdv A outer s H hr hG => ⟨_,
    dss_cons (ds_asg (de_ixK K rfl (un1 hr) (fun _ _ => rfl) (DE.op (de_ixK K rfl (un1 hr) (fun _ _ => rfl) (do_name 0) (de_int))) (de_name 1)) (dg_tupK K rfl rfl (dgs_cons (dg_name 2 sc__law_line.nd) (dgs_cons (dg_name 3 sc__law_line.nd) (dgs_nil))))) (dss_one (ds_ret (de_fnK K rfl (G__law_sum.mono (by decide)) hr hG Z.f__law_sum.m Z.f__law_sum.F.kp Z.f__law_sum.b (by rfl) (db_cons (de_fnK K rfl (G__law_unit.mono (by decide)) hr hG Z.f__law_unit.m Z.f__law_unit.F.kp Z.f__law_unit.b (by rfl) (db_cons (de_ixK K rfl (un1 hr) (fun _ _ => rfl) (do_name 0) (de_int)) (db_cons (de_name 3) (db_nil)))) (db_cons (de_fnK K rfl (G__law_unit.mono (by decide)) hr hG Z.f__law_unit.m Z.f__law_unit.F.kp Z.f__law_unit.b (by rfl) (db_cons (de_ixK K rfl (un1 hr) (fun _ _ => rfl) (do_name 0) (de_int)) (db_cons (de_name 2) (db_nil)))) (db_cons (de_neg (DE.op (de_int))) (db_nil)))))))⟩) hw
def wb__law_times (wf__law_told : WF) : WS :=
  wSeq (wAsgL (wDNew) 2) (wSeq (wFor (wItems (wN 0)) (wGt 2 (wGcons (wGn 3) (wGcons (wGn 4) (wGnil)))) (wFor (wItems (wN 1)) (wGt 2 (wGcons (wGn 5) (wGcons (wGn 6) (wGnil)))) (wSeq (wAsg (wCall gTuple (wCons (wLc (wZip false (wCons (wN 3) (wCons (wN 5) (wNil)))) (wGt 2 (wGcons (wGn 8) (wGcons (wGn 9) (wGnil)))) (wYes) (w2 gAdd (wB 8) (wB 9)) [8, 9]) (wNil))) (wGn 7)) (wStore 2 (wN 7) (w2 gAdd (wGet2 (wB 2) (wN 7) (wC (.int 0))) (w2 gMulI (wB 4) (wB 6))))))) (wFrz 2 (wRet (wFn 1 wf__law_told (wCons (wN 2) (wNil))))))
theorem wk__law_times (Z : Fs K mg) {wf__law_told : WF} {wf : WF} (G__law_told : FnG P w K mg base 1 Z.f__law_told.a Z.f__law_told.d ["numbers"] (spW K 1 wf__law_told)) (hw : ∀ ds Q, ds.length = 2 → wf ds Q → wb__law_times wf__law_told { nx := fun _ => Q .none, rt := Q } (startE ["one", "other", "found", "powers", "number", "late", "more", "both", "a", "b"] (ds.map .fz))) : FnG P w K mg base 2 Z.f__law_times.a Z.f__law_times.d ["one", "other"] (spW K 2 wf) :=
  fn_pure (wf := wf) (wb := wb__law_times wf__law_told) Z.f__law_times.F sc__law_times (fun cdv A outer s H hr hG => ⟨_,
    dss_cons (ds_setD 2 sc__law_times.nd (dd_nil)) (dss_cons (ds_for PassesOwn.never rfl (di_itemsK K rfl (de_name 0)) (dg_tupK K rfl rfl (dgs_cons (dg_name 3 sc__law_times.nd) (dgs_cons (dg_name 4 sc__law_times.nd) (dgs_nil)))) (dss_one (ds_for PassesOwn.never rfl (di_itemsK K rfl (de_name 1)) (dg_tupK K rfl rfl (dgs_cons (dg_name 5 sc__law_times.nd) (dgs_cons (dg_name 6 sc__law_times.nd) (dgs_nil)))) (dss_cons (ds_set 7 sc__law_times.nd (de_callT (cr_tupleK K rfl) (@cs_tuple _) boot_tuple (by rfl) Z.n_tuple (da_cons (DL.op (dl_lcV rfl sc__law_times.nd (di_zpPK K rfl (by rfl) Z.n_zip (db_cons (de_name 3) (db_cons (de_name 5) (db_nil)))) [("a", 8), ("b", 9)] (blkOk_by (N := ["one", "other", "found", "powers", "number", "late", "more", "both", "a", "b"]) (sc := defScope s__law_times) (by decide +kernel)) (fun _ _ _ _ _ => dg_tupK K rfl rfl (dgs_cons (dg_name 8 sc__law_times.nd) (dgs_cons (dg_name 9 sc__law_times.nd) (dgs_nil)))) (fun _ _ _ _ _ => dtt_nil) (fun _ _ _ _ _ => de_op (op_addK K rfl) (@rs_add _) (do_name 8) (do_name 9)) (by decide))) (da_nil)))) (dss_one (ds_store 2 (un1 hr) (de_op (op_addK K rfl) (@rs_add _) (DE.op (de_get2 (un1 hr) (do_name 2) (de_name 7) (de_int) ⟨by rfl, by rfl, by rfl, by rfl⟩)) (DE.op (de_op op_mulW (@rs_mulI _) (do_name 4) (do_name 6)))) (de_name 7) (pv 2))))))) (dss_frz 2 (dss_one (ds_ret (de_fnK K rfl (G__law_told.mono (by decide)) hr hG Z.f__law_told.m Z.f__law_told.F.kp Z.f__law_told.b (by rfl) (db_cons (de_name 2) (db_nil)))))))⟩) hw
def wb__law_one : WS :=
  wRet (wTup (wCons (wTup (wCons (w2 gRepT (wTup (wCons (wC (.int 0)) (wNil))) (w2 gSubI (wB 0) (wC (.int 1)))) (wCons (wC (.int 1)) (wNil)))) (wNil)))
theorem wk__law_one (Z : Fs K mg) {wf : WF} (hw : ∀ ds Q, ds.length = 1 → wf ds Q → wb__law_one { nx := fun _ => Q .none, rt := Q } (startE ["n"] (ds.map .fz))) : FnG P w K mg base 1 Z.f__law_one.a Z.f__law_one.d ["n"] (spW K 1 wf) :=
  fn_pure (wf := wf) (wb := wb__law_one) Z.f__law_one.F sc__law_one (fun cdv A outer s H hr hG => ⟨_,
    dss_one (ds_ret (de_tup (db_cons (de_tup (db_cons (de_op (op_repA K rfl) (@rs_repT _) (DE.op (de_tup (db_cons (de_int) (db_nil)))) (DE.op (de_op op_sub (@rs_subI _) (do_name 0) (DE.op (de_int))))) (db_cons (de_int) (db_nil)))) (db_nil))))⟩) hw
def wb__law_product (wf__law_one wf__law_times wf__law_line : WF) : WS :=
  wSeq (wAsg (wFn 1 wf__law_one (wCons (w2 gIxA (wB 0) (wC (.int 0))) (wNil))) (wGn 2)) (wSeq (wFor (wItems (wN 1)) (wGn 3) (wAsg (wFn 2 wf__law_times (wCons (wN 2) (wCons (wFn 2 wf__law_line (wCons (wN 0) (wCons (wN 3) (wNil)))) (wNil)))) (wGn 2))) (wRet (wN 2)))
theorem wk__law_product (Z : Fs K mg) {wf__law_one wf__law_times wf__law_line : WF} {wf : WF} (G__law_one : FnG P w K mg base 1 Z.f__law_one.a Z.f__law_one.d ["n"] (spW K 1 wf__law_one)) (G__law_times : FnG P w K mg base 2 Z.f__law_times.a Z.f__law_times.d ["one", "other"] (spW K 2 wf__law_times)) (G__law_line : FnG P w K mg base 3 Z.f__law_line.a Z.f__law_line.d ["frame", "r"] (spW K 2 wf__law_line)) (hw : ∀ ds Q, ds.length = 2 → wf ds Q → wb__law_product wf__law_one wf__law_times wf__law_line { nx := fun _ => Q .none, rt := Q } (startE ["frame", "lot", "found", "r"] (ds.map .fz))) : FnG P w K mg base 4 Z.f__law_product.a Z.f__law_product.d ["frame", "lot"] (spW K 2 wf) :=
  fn_pure (wf := wf) (wb := wb__law_product wf__law_one wf__law_times wf__law_line) Z.f__law_product.F sc__law_product (fun cdv A outer s H hr hG => ⟨_,
    dss_cons (ds_set 2 sc__law_product.nd (de_fnK K rfl (G__law_one.mono (by decide)) hr hG Z.f__law_one.m Z.f__law_one.F.kp Z.f__law_one.b (by rfl) (db_cons (de_ixK K rfl (un1 hr) (fun _ _ => rfl) (do_name 0) (de_int)) (db_nil)))) (dss_cons (ds_for PassesOwn.never rfl (di_itemsK K rfl (de_name 1)) (dg_name 3 sc__law_product.nd) (dss_one (ds_set 2 sc__law_product.nd (de_fnK K rfl (G__law_times.mono (by decide)) hr hG Z.f__law_times.m Z.f__law_times.F.kp Z.f__law_times.b (by rfl) (db_cons (de_name 2) (db_cons (de_fnK K rfl (G__law_line.mono (by decide)) hr hG Z.f__law_line.m Z.f__law_line.F.kp Z.f__law_line.b (by rfl) (db_cons (de_name 0) (db_cons (de_name 3) (db_nil)))) (db_nil))))))) (dss_one (ds_ret (de_name 2))))⟩) hw
def wb__law_lots : WS :=
  wSeq (wAsg (wLst (wCons (wTup (wNil)) (wNil))) (wGn 1)) (wSeq (wFor (wRng1 (wB 0)) (wGn 2) (wAsg (w2 gCat (wB 1) (wLc (wItems (wN 1)) (wGn 3) (wYes) (w2 gAdd (wB 3) (wTup (wCons (wN 2) (wNil)))) [3])) (wGn 1))) (wRet (wCall gSorted (wCons (wB 1) (wNil)))))
theorem wk__law_lots (Z : Fs K mg) {wf : WF} (hw : ∀ ds Q, ds.length = 1 → wf ds Q → wb__law_lots { nx := fun _ => Q .none, rt := Q } (startE ["m", "found", "r", "lot"] (ds.map .fz))) : FnG P w K mg base 1 Z.f__law_lots.a Z.f__law_lots.d ["m"] (spW K 1 wf) :=
  fn_pure (wf := wf) (wb := wb__law_lots) Z.f__law_lots.F sc__law_lots (fun cdv A outer s H hr hG => ⟨_,
    dss_cons (ds_set 1 sc__law_lots.nd (DL.fr (dl_lst (db_cons (de_tup (db_nil)) (db_nil))))) (dss_cons (ds_for PassesOwn.never rfl (di_range1 (by rfl) Z.n_range (do_name 0)) (dg_name 2 sc__law_lots.nd) (dss_one (ds_set 1 sc__law_lots.nd (DL.fr (dl_op op_cat (@rs_cat _) (do_name 1) (DL.op (dl_lcV rfl sc__law_lots.nd (di_itemsK K rfl (de_name 1)) [("lot", 3)] (blkOk_by (N := ["m", "found", "r", "lot"]) (sc := defScope s__law_lots) (by decide +kernel)) (fun _ _ _ _ _ => dg_name 3 sc__law_lots.nd) (fun _ _ _ _ _ => dtt_nil) (fun _ _ _ _ _ => de_op (op_addK K rfl) (@rs_add _) (do_name 3) (DE.op (de_tup (db_cons (de_name 2) (db_nil))))) (by decide)))))))) (dss_one (ds_ret (DL.fr (dl_callB (cr_sortedK K rfl rfl (un70 hr)) (@cs_sorted _) bt_sorted (by rfl) Z.n_sorted (da_cons (do_name 1) (da_nil)))))))⟩) hw
def wb__law_pieces : WS :=
  wSeq (wAsg (wLstRg (wR1 (w2 gIxA (wB 0) (wC (.int 0))))) (wGn 2)) (wSeq (wFor (wItems (wN 1)) (wGn 3) (wSeq (wAsg (wLc (wItems (w2 gIxA (w2 gIxA (wB 0) (wC (.int 1))) (wN 3))) (wGn 6) (wYes) (w2 gIxA (wB 2) (wN 6)) [6]) (wGt 2 (wGcons (wGn 4) (wGcons (wGn 5) (wGnil))))) (wAsg (wLc (wItems (wN 2)) (wGn 7) (wYes) (wIfE (wTrB (w2 (gInA false) (wN 7) (wTup (wCons (wN 4) (wCons (wN 5) (wNil)))))) (wCall gMin2 (wCons (wB 4) (wCons (wB 5) (wNil)))) (wN 7)) [7]) (wGn 2)))) (wRet (wN 2)))
theorem wk__law_pieces (Z : Fs K mg) {wf : WF} (hw : ∀ ds Q, ds.length = 2 → wf ds Q → wb__law_pieces { nx := fun _ => Q .none, rt := Q } (startE ["frame", "roads", "heads", "r", "one", "other", "c", "head"] (ds.map .fz))) : FnG P w K mg base 1 Z.f__law_pieces.a Z.f__law_pieces.d ["frame", "roads"] (spW K 2 wf) :=
  fn_pure (wf := wf) (wb := wb__law_pieces) Z.f__law_pieces.F sc__law_pieces (fun cdv A outer s H hr hG => ⟨_,
    dss_cons (ds_set 2 sc__law_pieces.nd (DL.fr (dl_listRg rfl (by rfl) Z.n_list (drg_1 (by rfl) Z.n_range (DE.op (de_ixK K rfl (un1 hr) (fun _ _ => rfl) (do_name 0) (de_int))))))) (dss_cons (ds_for PassesOwn.never rfl (di_itemsK K rfl (de_name 1)) (dg_name 3 sc__law_pieces.nd) (dss_cons (ds_asg (DL.fr (dl_lcV rfl sc__law_pieces.nd (di_itemsK K rfl (de_ixK K rfl (un1 hr) (fun _ _ => rfl) (DE.op (de_ixK K rfl (un1 hr) (fun _ _ => rfl) (do_name 0) (de_int))) (de_name 3))) [("c", 6)] (blkOk_by (N := ["frame", "roads", "heads", "r", "one", "other", "c", "head"]) (sc := defScope s__law_pieces) (by decide +kernel)) (fun _ _ _ _ _ => dg_name 6 sc__law_pieces.nd) (fun _ _ _ _ _ => dtt_nil) (fun _ _ _ _ _ => de_ixK K rfl (un1 hr) (fun _ _ => rfl) (do_name 2) (de_name 6)) (by decide))) (dg_tupK K rfl rfl (dgs_cons (dg_name 4 sc__law_pieces.nd) (dgs_cons (dg_name 5 sc__law_pieces.nd) (dgs_nil))))) (dss_one (ds_set 2 sc__law_pieces.nd (DL.fr (dl_lcV rfl sc__law_pieces.nd (di_itemsK K rfl (de_name 2)) [("head", 7)] (blkOk_by (N := ["frame", "roads", "heads", "r", "one", "other", "c", "head"]) (sc := defScope s__law_pieces) (by decide +kernel)) (fun _ _ _ _ _ => dg_name 7 sc__law_pieces.nd) (fun _ _ _ _ _ => dtt_nil) (fun _ _ _ _ _ => de_ifExp (dt_cmp1 (op_inK K rfl (un65 hr)) (@rs_in _) (by rfl) (de_name 7) (DE.op (de_tup (db_cons (de_name 4) (db_cons (de_name 5) (db_nil)))))) (de_callB (call_min2 rfl) (@cs_min2 _) bt_min (by rfl) Z.n_min (da_cons (do_name 4) (da_cons (do_name 5) (da_nil)))) (de_name 7)) (by decide))))))) (dss_one (ds_ret (de_name 2))))⟩) hw
def wb__law_many_pieces (wf__law_pieces : WF) : WS :=
  wRet (wCall gLenX (wCons (wCall gDictX (wCons (wLc (wItems (wFn 2 wf__law_pieces (wCons (wN 0) (wCons (wN 1) (wNil))))) (wGn 2) (wYes) (wTup (wCons (wN 2) (wCons (wC (.int 0)) (wNil)))) [2]) (wNil))) (wNil)))
theorem wk__law_many_pieces (Z : Fs K mg) {wf__law_pieces : WF} {wf : WF} (G__law_pieces : FnG P w K mg base 1 Z.f__law_pieces.a Z.f__law_pieces.d ["frame", "roads"] (spW K 2 wf__law_pieces)) (hw : ∀ ds Q, ds.length = 2 → wf ds Q → wb__law_many_pieces wf__law_pieces { nx := fun _ => Q .none, rt := Q } (startE ["frame", "lot", "head"] (ds.map .fz))) : FnG P w K mg base 2 Z.f__law_many_pieces.a Z.f__law_many_pieces.d ["frame", "lot"] (spW K 2 wf) :=
  fn_pure (wf := wf) (wb := wb__law_many_pieces wf__law_pieces) Z.f__law_many_pieces.F sc__law_many_pieces (fun cdv A outer s H hr hG => ⟨_,
    dss_one (ds_ret (de_callB (cr_lenX K rfl) (@cs_lenX _) boot_len (by rfl) Z.n_len (da_cons (DE.op (DD.fr (dd_callTK K rfl (cr_dictX K rfl rfl (un64 hr)) (@cs_dictX _) boot_dict (by rfl) Z.n_dict (da_cons (DL.op (dl_lcV rfl sc__law_many_pieces.nd (di_itemsK K rfl (de_fnK K rfl (G__law_pieces.mono (by decide)) hr hG Z.f__law_pieces.m Z.f__law_pieces.F.kp Z.f__law_pieces.b (by rfl) (db_cons (de_name 0) (db_cons (de_name 1) (db_nil))))) [("head", 2)] (blkOk_by (N := ["frame", "lot", "head"]) (sc := defScope s__law_many_pieces) (by decide +kernel)) (fun _ _ _ _ _ => dg_name 2 sc__law_many_pieces.nd) (fun _ _ _ _ _ => dtt_nil) (fun _ _ _ _ _ => de_tup (db_cons (de_name 2) (db_cons (de_int) (db_nil)))) (by decide))) (da_nil))))) (da_nil))))⟩) hw
def wb__law_free_lots (wf__law_lots wf__law_many_pieces : WF) : WS :=
  wRet (wLc (wItems (wFn 1 wf__law_lots (wCons (wCall gLenX (wCons (w2 gIxA (wB 0) (wC (.int 1))) (wNil))) (wNil)))) (wGn 1) (wTrB (w2 gEq (wFn 2 wf__law_many_pieces (wCons (wN 0) (wCons (wN 1) (wNil)))) (w2 gSubI (w2 gIxA (wB 0) (wC (.int 0))) (wCall gLenX (wCons (wB 1) (wNil)))))) (wN 1) [1])
theorem wk__law_free_lots (Z : Fs K mg) {wf__law_lots wf__law_many_pieces : WF} {wf : WF} (G__law_lots : FnG P w K mg base 1 Z.f__law_lots.a Z.f__law_lots.d ["m"] (spW K 1 wf__law_lots)) (G__law_many_pieces : FnG P w K mg base 2 Z.f__law_many_pieces.a Z.f__law_many_pieces.d ["frame", "lot"] (spW K 2 wf__law_many_pieces)) (hw : ∀ ds Q, ds.length = 1 → wf ds Q → wb__law_free_lots wf__law_lots wf__law_many_pieces { nx := fun _ => Q .none, rt := Q } (startE ["frame", "lot"] (ds.map .fz))) : FnG P w K mg base 3 Z.f__law_free_lots.a Z.f__law_free_lots.d ["frame"] (spW K 1 wf) :=
  fn_pure (wf := wf) (wb := wb__law_free_lots wf__law_lots wf__law_many_pieces) Z.f__law_free_lots.F sc__law_free_lots (fun cdv A outer s H hr hG => ⟨_,
    dss_one (ds_ret (DL.fr (dl_lcV rfl sc__law_free_lots.nd (di_itemsK K rfl (de_fnK K rfl (G__law_lots.mono (by decide)) hr hG Z.f__law_lots.m Z.f__law_lots.F.kp Z.f__law_lots.b (by rfl) (db_cons (de_callB (cr_lenX K rfl) (@cs_lenX _) boot_len (by rfl) Z.n_len (da_cons (DE.op (de_ixK K rfl (un1 hr) (fun _ _ => rfl) (do_name 0) (de_int))) (da_nil))) (db_nil)))) [("lot", 1)] (blkOk_by (N := ["frame", "lot"]) (sc := defScope s__law_free_lots) (by decide +kernel)) (fun _ _ _ _ _ => dg_name 1 sc__law_free_lots.nd) (fun _ _ _ _ _ => dtt_one (dt_cmp (op_eqK K rfl (un64 hr)) (@rs_eq _) (by rfl) (DE.op (de_fnK K rfl (G__law_many_pieces.mono (by decide)) hr hG Z.f__law_many_pieces.m Z.f__law_many_pieces.F.kp Z.f__law_many_pieces.b (by rfl) (db_cons (de_name 0) (db_cons (de_name 1) (db_nil))))) (DE.op (de_op op_sub (@rs_subI _) (DE.op (de_ixK K rfl (un1 hr) (fun _ _ => rfl) (do_name 0) (de_int))) (DE.op (de_callB (cr_lenX K rfl) (@cs_lenX _) boot_len (by rfl) Z.n_len (da_cons (do_name 1) (da_nil)))))))) (fun _ _ _ _ _ => de_name 1) (by decide))))⟩) hw
def wb__law_whole_lots (wf__law_lots wf__law_many_pieces : WF) : WS :=
  wSeq (wAsg (wCall gLenX (wCons (w2 gIxA (wB 0) (wC (.int 1))) (wNil))) (wGn 1)) (wSeq (wAsgL (wLst (wNil)) 2) (wSeq (wFor (wItems (wFn 1 wf__law_lots (wCons (wN 1) (wNil)))) (wGn 3) (wIf (wTrB (w2 gEq (wFn 2 wf__law_many_pieces (wCons (wN 0) (wCons (wLc (wRng1 (wB 1)) (wGn 4) (wTrB (w2 (gInA true) (wN 4) (wB 3))) (wN 4) [4]) (wNil)))) (wC (.int 1)))) (wMutE 2 gAppend (wCons (wN 3) (wNil)) (fun _ η Q => Q η)) (wNext))) (wFrz 2 (wRet (wN 2)))))
theorem wk__law_whole_lots (Z : Fs K mg) {wf__law_lots wf__law_many_pieces : WF} {wf : WF} (G__law_lots : FnG P w K mg base 1 Z.f__law_lots.a Z.f__law_lots.d ["m"] (spW K 1 wf__law_lots)) (G__law_many_pieces : FnG P w K mg base 2 Z.f__law_many_pieces.a Z.f__law_many_pieces.d ["frame", "lot"] (spW K 2 wf__law_many_pieces)) (hw : ∀ ds Q, ds.length = 1 → wf ds Q → wb__law_whole_lots wf__law_lots wf__law_many_pieces { nx := fun _ => Q .none, rt := Q } (startE ["frame", "m", "found", "lot", "r"] (ds.map .fz))) : FnG P w K mg base 3 Z.f__law_whole_lots.a Z.f__law_whole_lots.d ["frame"] (spW K 1 wf) :=
  fn_pure (wf := wf) (wb := wb__law_whole_lots wf__law_lots wf__law_many_pieces) Z.f__law_whole_lots.F sc__law_whole_lots (fun cdv A outer s H hr hG => ⟨_,
    dss_cons (ds_set 1 sc__law_whole_lots.nd (de_callB (cr_lenX K rfl) (@cs_lenX _) boot_len (by rfl) Z.n_len (da_cons (DE.op (de_ixK K rfl (un1 hr) (fun _ _ => rfl) (do_name 0) (de_int))) (da_nil)))) (dss_cons (ds_setL 2 sc__law_whole_lots.nd (dl_lst (db_nil))) (dss_cons (ds_for PassesOwn.never rfl (di_itemsK K rfl (de_fnK K rfl (G__law_lots.mono (by decide)) hr hG Z.f__law_lots.m Z.f__law_lots.F.kp Z.f__law_lots.b (by rfl) (db_cons (de_name 1) (db_nil)))) (dg_name 3 sc__law_whole_lots.nd) (dss_one (ds_if (dt_cmp (op_eqK K rfl (un64 hr)) (@rs_eq _) (by rfl) (DE.op (de_fnK K rfl (G__law_many_pieces.mono (by decide)) hr hG Z.f__law_many_pieces.m Z.f__law_many_pieces.F.kp Z.f__law_many_pieces.b (by rfl) (db_cons (de_name 0) (db_cons (DL.fr (dl_lcV rfl sc__law_whole_lots.nd (di_range1 (by rfl) Z.n_range (do_name 1)) [("r", 4)] (blkOk_by (N := ["frame", "m", "found", "lot", "r"]) (sc := defScope s__law_whole_lots) (by decide +kernel)) (fun _ _ _ _ _ => dg_name 4 sc__law_whole_lots.nd) (fun _ _ _ _ _ => dtt_one (dt_cmp1 (op_notInK K rfl (un65 hr)) (@rs_notIn _) (by rfl) (de_name 4) (do_name 3))) (fun _ _ _ _ _ => de_name 4) (by decide))) (db_nil))))) (DE.op (de_int))) (dss_one (ds_append 2 (db_cons (de_name 3) (db_nil)) (pv 2))) (dss_nil)))) (dss_frz 2 (dss_one (ds_ret (de_name 2))))))⟩) hw
def wb_law (wf__law_frame wf_line_of wf__law_line wf__law_lots wf__law_free_lots wf_road_lots wf_free_lots_told wf_all_products wf__law_product wf_worth_of wf_degree_of wf_is_free_lot wf_product_of wf__law_many_pieces wf__law_whole_lots wf_whole_lots wf_whole_products wf_is_whole_lot : WF) : WS :=
  wSeq (wFor (wRng1 (wC (.int 4))) (wGn 2) (wSeq (wAsg (wFnS 1 2 wf__law_frame (wCons (w2 gIxA (wLst (wCons (wC (.int 2)) (wCons (wC (.int 3)) (wCons (wC (.int 4)) (wCons (wC (.int 5)) (wNil)))))) (wN 2)) (wCons (w2 gIxA (wLst (wCons (wC (.int 3)) (wCons (wC (.int 4)) (wCons (wC (.int 5)) (wCons (wC (.int 5)) (wNil)))))) (wN 2)) (wNil)))) (wGn 3)) (wSeq (wPar [4, 5, 6] (wMFz (w2 gIxA (wB 3) (wC (.int 0))) (wMFz (wCall gLenX (wCons (w2 gIxA (wB 3) (wC (.int 1))) (wNil))) (wMFz (wCall gRepr (wCons (wB 3) (wNil))) (wMNil))))) (wSeq (wAsg (wCall gTuple (wCons (wLc (wRng1 (wB 4)) (wGn 19) (wYes) (w2 gSubI (wFnS 1 1 wfPick (wCons (wC (.int 21)) (wNil))) (wC (.int 10))) [19]) (wNil))) (wGn 7)) (wSeq (wAsg (wLc (wItems (w2 gIxA (wB 3) (wC (.int 1)))) (wGt 2 (wGcons (wGn 20) (wGcons (wGn 21) (wGnil)))) (wYes) (w2 gSubI (w2 gIxA (wB 7) (wN 21)) (w2 gIxA (wB 7) (wN 20))) [20, 21]) (wGn 8)) (wSeq (wIf (wTrB (w2 gNe (wLc (wRng1 (wB 5)) (wGn 15) (wTrB (w2 gNe (wCall gRepr (wCons (wFn 2 wf_line_of (wCons (wN 3) (wCons (wN 15) (wNil)))) (wNil))) (wCall gRepr (wCons (wFn 2 wf__law_line (wCons (wN 3) (wCons (wN 15) (wNil)))) (wNil))))) (wN 15) [15]) (wLst (wNil)))) (wRet (wC (.bool false))) (wNext)) (wSeq (wPar [9, 10] (wMFz (wFn 1 wf__law_lots (wCons (wN 5) (wNil))) (wMFz (wFn 1 wf__law_free_lots (wCons (wN 3) (wNil))) (wMNil)))) (wSeq (wIf (wTrB (w2 gNe (wCall gRepr (wCons (wLst (wCons (wFn 1 wf_road_lots (wCons (wN 3) (wNil))) (wCons (wFn 1 wf_free_lots_told (wCons (wN 3) (wNil))) (wNil)))) (wNil))) (wCall gRepr (wCons (wLst (wCons (wN 9) (wCons (wN 10) (wNil)))) (wNil))))) (wRet (wC (.bool false))) (wNext)) (wSeq (wAsg (wFn 1 wf_all_products (wCons (wN 3) (wNil))) (wGn 11)) (wSeq (wIf (wTrB (w2 gNe (wCall gRepr (wCons (wB 11) (wNil))) (wCall gRepr (wCons (wCall gTuple (wCons (wLc (wItems (wN 9)) (wGn 12) (wYes) (wFn 2 wf__law_product (wCons (wN 3) (wCons (wN 12) (wNil)))) [12]) (wNil))) (wNil))))) (wRet (wC (.bool false))) (wNext)) (wSeq (wFor (wZip false (wCons (wN 9) (wCons (wN 11) (wNil)))) (wGt 2 (wGcons (wGn 12) (wGcons (wGn 13) (wGnil)))) (wSeq (wAsg (wC (.int 1)) (wGn 14)) (wSeq (wFor (wItems (wN 12)) (wGn 15) (wAsg (w2 gMulI (wB 14) (w2 gIxA (wB 8) (wN 15))) (wGn 14))) (wSeq (wAsg (wLc (wItems (wN 12)) (wGn 15) (wTrB (w2 gEq (w2 gIxA (w2 gIxA (w2 gIxA (wB 3) (wC (.int 1))) (wN 15)) (wC (.int 0))) (w2 gIxA (w2 gIxA (w2 gIxA (wB 3) (wC (.int 1))) (wN 15)) (wC (.int 1))))) (wN 15) [15]) (wGn 16)) (wSeq (wIf (wOrT (wTrB (w2 gNe (wFn 2 wf_worth_of (wCons (wN 13) (wCons (wN 7) (wNil)))) (wB 14))) (wTrB (w2 gNe (wFn 1 wf_degree_of (wCons (wN 13) (wNil))) (wIfE (wTrB (w2 gEq (wB 16) (wLst (wNil)))) (wCall gLenX (wCons (wB 12) (wNil))) (w1 gNeg (wC (.int 1))))))) (wRet (wC (.bool false))) (wNext)) (wIf (wOrT (wTrB (w2 gNe (wCall gRepr (wCons (wFn 2 wf_is_free_lot (wCons (wN 3) (wCons (wN 12) (wNil)))) (wNil))) (wCall gRepr (wCons (w2 (gInA false) (wN 12) (wB 10)) (wNil))))) (wTrB (w2 gNe (wCall gRepr (wCons (wFn 2 wf_product_of (wCons (wN 3) (wCons (wN 12) (wNil)))) (wNil))) (wCall gRepr (wCons (wB 13) (wNil)))))) (wRet (wC (.bool false))) (wNext))))))) (wSeq (wIf (wTrB (w2 gEq (wFn 2 wf__law_many_pieces (wCons (wN 3) (wCons (wLstRg (wR1 (wB 5))) (wNil)))) (wC (.int 1)))) (wSeq (wAsg (wFn 1 wf__law_whole_lots (wCons (wN 3) (wNil))) (wGn 17)) (wSeq (wAsg (wCall gTuple (wCons (wLc (wItems (wN 17)) (wGn 12) (wYes) (wFn 2 wf__law_product (wCons (wN 3) (wCons (wN 12) (wNil)))) [12]) (wNil))) (wGn 18)) (wSeq (wIf (wTrB (w2 gNe (wCall gRepr (wCons (wLst (wCons (wFn 1 wf_whole_lots (wCons (wN 3) (wNil))) (wCons (wFn 1 wf_whole_products (wCons (wN 3) (wNil))) (wNil)))) (wNil))) (wCall gRepr (wCons (wLst (wCons (wN 17) (wCons (wN 18) (wNil)))) (wNil))))) (wRet (wC (.bool false))) (wNext)) (wIf (wTrB (w2 gNe (wLc (wItems (wN 9)) (wGn 12) (wTrB (w2 gNe (wCall gRepr (wCons (wFn 2 wf_is_whole_lot (wCons (wN 3) (wCons (wN 12) (wNil)))) (wNil))) (wCall gRepr (wCons (w2 (gInA false) (wN 12) (wB 17)) (wNil))))) (wN 12) [12]) (wLst (wNil)))) (wRet (wC (.bool false))) (wNext))))) (wNext)) (wIf (wTrB (w2 gNe (wCall gRepr (wCons (wB 3) (wNil))) (wB 6))) (wRet (wC (.bool false))) (wNext)))))))))))))) (wRet (w2 gEq (wFn 2 wf_product_of (wCons (wTup (wCons (wC (.int 3)) (wCons (wTup (wCons (wTup (wCons (wC (.int 0)) (wCons (wC (.int 1)) (wNil)))) (wCons (wTup (wCons (wC (.int 1)) (wCons (wC (.int 2)) (wNil)))) (wCons (wTup (wCons (wC (.int 2)) (wCons (wC (.int 0)) (wNil)))) (wNil))))) (wNil)))) (wCons (wTup (wCons (wC (.int 0)) (wCons (wC (.int 1)) (wNil)))) (wNil)))) (wTup (wCons (wTup (wCons (wTup (wCons (wC (.int 1)) (wCons (wC (.int 1)) (wNil)))) (wCons (wC (.int 1)) (wNil)))) (wCons (wTup (wCons (wTup (wCons (wC (.int 2)) (wCons (wC (.int 0)) (wNil)))) (wCons (w1 gNeg (wC (.int 1))) (wNil)))) (wNil))))))
theorem wk_law (Z : Fs K mg) {wf__law_frame wf_line_of wf__law_line wf__law_lots wf__law_free_lots wf_road_lots wf_free_lots_told wf_all_products wf__law_product wf_worth_of wf_degree_of wf_is_free_lot wf_product_of wf__law_many_pieces wf__law_whole_lots wf_whole_lots wf_whole_products wf_is_whole_lot : WF} (G_source : FnG P w K mg base 1 Z.f__law_source.a Z.f__law_source.d ["script"] (spSource K)) (G__law_frame : FnG P w K mg base 4 Z.f__law_frame.a Z.f__law_frame.d ["source", "crossings", "roads"] (spS K 2 wf__law_frame)) (G__law_pick : FnG P w K mg base 1 Z.f__law_pick.a Z.f__law_pick.d ["source", "many"] (spS K 1 wfPick)) (G_line_of : FnG P w K mg base 2 Z.f_line_of.a Z.f_line_of.d ["frame", "road"] (spW K 2 wf_line_of)) (G__law_line : FnG P w K mg base 3 Z.f__law_line.a Z.f__law_line.d ["frame", "r"] (spW K 2 wf__law_line)) (G__law_lots : FnG P w K mg base 1 Z.f__law_lots.a Z.f__law_lots.d ["m"] (spW K 1 wf__law_lots)) (G__law_free_lots : FnG P w K mg base 3 Z.f__law_free_lots.a Z.f__law_free_lots.d ["frame"] (spW K 1 wf__law_free_lots)) (G_road_lots : FnG P w K mg base 2 Z.f_road_lots.a Z.f_road_lots.d ["frame"] (spW K 1 wf_road_lots)) (G_free_lots_told : FnG P w K mg base 5 Z.f_free_lots_told.a Z.f_free_lots_told.d ["frame"] (spW K 1 wf_free_lots_told)) (G_all_products : FnG P w K mg base 4 Z.f_all_products.a Z.f_all_products.d ["frame"] (spW K 1 wf_all_products)) (G__law_product : FnG P w K mg base 4 Z.f__law_product.a Z.f__law_product.d ["frame", "lot"] (spW K 2 wf__law_product)) (G_worth_of : FnG P w K mg base 1 Z.f_worth_of.a Z.f_worth_of.d ["poly", "heights"] (spW K 2 wf_worth_of)) (G_degree_of : FnG P w K mg base 1 Z.f_degree_of.a Z.f_degree_of.d ["poly"] (spW K 1 wf_degree_of)) (G_is_free_lot : FnG P w K mg base 4 Z.f_is_free_lot.a Z.f_is_free_lot.d ["frame", "lot"] (spW K 2 wf_is_free_lot)) (G_product_of : FnG P w K mg base 3 Z.f_product_of.a Z.f_product_of.d ["frame", "lot"] (spW K 2 wf_product_of)) (G__law_many_pieces : FnG P w K mg base 2 Z.f__law_many_pieces.a Z.f__law_many_pieces.d ["frame", "lot"] (spW K 2 wf__law_many_pieces)) (G__law_whole_lots : FnG P w K mg base 3 Z.f__law_whole_lots.a Z.f__law_whole_lots.d ["frame"] (spW K 1 wf__law_whole_lots)) (G_whole_lots : FnG P w K mg base 5 Z.f_whole_lots.a Z.f_whole_lots.d ["frame"] (spW K 1 wf_whole_lots)) (G_whole_products : FnG P w K mg base 6 Z.f_whole_products.a Z.f_whole_products.d ["frame"] (spW K 1 wf_whole_products)) (G_is_whole_lot : FnG P w K mg base 4 Z.f_is_whole_lot.a Z.f_is_whole_lot.d ["frame", "lot"] (spW K 2 wf_is_whole_lot)) (hw : wb_law wf__law_frame wf_line_of wf__law_line wf__law_lots wf__law_free_lots wf_road_lots wf_free_lots_told wf_all_products wf__law_product wf_worth_of wf_degree_of wf_is_free_lot wf_product_of wf__law_many_pieces wf__law_whole_lots wf_whole_lots wf_whole_products wf_is_whole_lot { nx := fun _ => False, rt := fun d => d = .bool true } (lawE ["script", "source", "lap", "frame", "n", "m", "kept", "heights", "rises", "lots", "free", "products", "lot", "product", "worth", "r", "loops", "whole", "due", "c", "a", "b"])) : FnG P w K mg base 7 Z.f_law.a Z.f_law.d ["script"] (spLawG K) :=
  fn_law (wb := wb_law wf__law_frame wf_line_of wf__law_line wf__law_lots wf__law_free_lots wf_road_lots wf_free_lots_told wf_all_products wf__law_product wf_worth_of wf_degree_of wf_is_free_lot wf_product_of wf__law_many_pieces wf__law_whole_lots wf_whole_lots wf_whole_products wf_is_whole_lot) Z.f_law.F sc_law (by decide) (fun cdv A outer s H hr hG => ⟨_, _, _, rfl, ps_set (i := 1) sc_law.nd rfl (by first | exact .inl rfl | exact .inr rfl) (pe_callG (G_source.mono (by decide)) hr hG (by rfl) Z.f__law_source.m Z.f__law_source.F.kp Z.f__law_source.b (pa_cons (pv 0) pa_nil)),
    dss_cons (ds_for PassesOwn.never rfl (di_range1 (by rfl) Z.n_range (DE.op (de_int))) (dg_name 2 sc_law.nd) (dss_cons (ds_set 3 sc_law.nd (de_fnSK K rfl 1 (G__law_frame.mono (by decide)) hr hG Z.f__law_frame.m Z.f__law_frame.F.kp Z.f__law_frame.b (by rfl) (pv 1) (db_cons (de_ixK K rfl (un1 hr) (fun _ _ => rfl) (DL.op (dl_lst (db_cons (de_int) (db_cons (de_int) (db_cons (de_int) (db_cons (de_int) (db_nil))))))) (de_name 2)) (db_cons (de_ixK K rfl (un1 hr) (fun _ _ => rfl) (DL.op (dl_lst (db_cons (de_int) (db_cons (de_int) (db_cons (de_int) (db_cons (de_int) (db_nil))))))) (de_name 2)) (db_nil))))) (dss_cons (ds_par3 4 5 6 rfl sc_law.nd (dm_fz (de_ixK K rfl (un1 hr) (fun _ _ => rfl) (do_name 3) (de_int)) (dm_fz (de_callB (cr_lenX K rfl) (@cs_lenX _) boot_len (by rfl) Z.n_len (da_cons (DE.op (de_ixK K rfl (un1 hr) (fun _ _ => rfl) (do_name 3) (de_int))) (da_nil))) (dm_fz (de_callB (cr_reprK K rfl (un70 hr) hG) (@cs_repr _) bt_repr (by rfl) Z.n_repr (da_cons (do_name 3) (da_nil))) (dm_nil))))) (dss_cons (ds_set 7 sc_law.nd (de_callT (cr_tupleK K rfl) (@cs_tuple _) boot_tuple (by rfl) Z.n_tuple (da_cons (DL.op (dl_lcV rfl sc_law.nd (di_range1 (by rfl) Z.n_range (do_name 4)) [("c", 19)] (blkOk_by (N := ["script", "source", "lap", "frame", "n", "m", "kept", "heights", "rises", "lots", "free", "products", "lot", "product", "worth", "r", "loops", "whole", "due", "c", "a", "b"]) (sc := defScope s_law) (by decide +kernel)) (fun _ _ _ _ _ => dg_name 19 sc_law.nd) (fun _ _ _ _ _ => dtt_nil) (fun _ _ _ _ _ => de_op op_sub (@rs_subI _) (DE.op (de_fnSK K rfl 1 (G__law_pick.mono (by decide)) hr hG Z.f__law_pick.m Z.f__law_pick.F.kp Z.f__law_pick.b (by rfl) (pv 1) (db_cons (de_int) (db_nil)))) (DE.op (de_int))) (by decide))) (da_nil)))) (dss_cons (ds_lcF 8 rfl sc_law.nd (di_itemsK K rfl (de_ixK K rfl (un1 hr) (fun _ _ => rfl) (do_name 3) (de_int))) [("a", 20), ("b", 21)] (blkOk_by (N := ["script", "source", "lap", "frame", "n", "m", "kept", "heights", "rises", "lots", "free", "products", "lot", "product", "worth", "r", "loops", "whole", "due", "c", "a", "b"]) (sc := defScope s_law) (by decide +kernel)) (fun _ _ _ _ _ => dg_tupK K rfl rfl (dgs_cons (dg_name 20 sc_law.nd) (dgs_cons (dg_name 21 sc_law.nd) (dgs_nil)))) (fun _ _ _ _ _ => dtt_nil) (fun _ _ _ _ _ => de_op op_sub (@rs_subI _) (DE.op (de_ixK K rfl (un1 hr) (fun _ _ => rfl) (do_name 7) (de_name 21))) (DE.op (de_ixK K rfl (un1 hr) (fun _ _ => rfl) (do_name 7) (de_name 20)))) (by decide)) (dss_cons (ds_if (dt_cmp (op_neK K rfl (un64 hr)) (@rs_ne _) (by rfl) (DL.op (dl_lcV rfl sc_law.nd (di_range1 (by rfl) Z.n_range (do_name 5)) [("r", 15)] (blkOk_by (N := ["script", "source", "lap", "frame", "n", "m", "kept", "heights", "rises", "lots", "free", "products", "lot", "product", "worth", "r", "loops", "whole", "due", "c", "a", "b"]) (sc := defScope s_law) (by decide +kernel)) (fun _ _ _ _ _ => dg_name 15 sc_law.nd) (fun _ _ _ _ _ => dtt_one (dt_cmp (op_neK K rfl (un64 hr)) (@rs_ne _) (by rfl) (DE.op (de_callB (cr_reprK K rfl (un70 hr) hG) (@cs_repr _) bt_repr (by rfl) Z.n_repr (da_cons (DE.op (de_fnK K rfl (G_line_of.mono (by decide)) hr hG Z.f_line_of.m Z.f_line_of.F.kp Z.f_line_of.b (by rfl) (db_cons (de_name 3) (db_cons (de_name 15) (db_nil))))) (da_nil)))) (DE.op (de_callB (cr_reprK K rfl (un70 hr) hG) (@cs_repr _) bt_repr (by rfl) Z.n_repr (da_cons (DE.op (de_fnK K rfl (G__law_line.mono (by decide)) hr hG Z.f__law_line.m Z.f__law_line.F.kp Z.f__law_line.b (by rfl) (db_cons (de_name 3) (db_cons (de_name 15) (db_nil))))) (da_nil)))))) (fun _ _ _ _ _ => de_name 15) (by decide))) (DL.op (dl_lst (db_nil)))) (dss_one (ds_ret (de_bl))) (dss_nil)) (dss_cons (ds_par2 9 10 rfl sc_law.nd (dm_fz (de_fnK K rfl (G__law_lots.mono (by decide)) hr hG Z.f__law_lots.m Z.f__law_lots.F.kp Z.f__law_lots.b (by rfl) (db_cons (de_name 5) (db_nil))) (dm_fz (de_fnK K rfl (G__law_free_lots.mono (by decide)) hr hG Z.f__law_free_lots.m Z.f__law_free_lots.F.kp Z.f__law_free_lots.b (by rfl) (db_cons (de_name 3) (db_nil))) (dm_nil)))) (dss_cons (ds_if (dt_cmp (op_neK K rfl (un64 hr)) (@rs_ne _) (by rfl) (DE.op (de_callB (cr_reprK K rfl (un70 hr) hG) (@cs_repr _) bt_repr (by rfl) Z.n_repr (da_cons (DL.op (dl_lst (db_cons (de_fnK K rfl (G_road_lots.mono (by decide)) hr hG Z.f_road_lots.m Z.f_road_lots.F.kp Z.f_road_lots.b (by rfl) (db_cons (de_name 3) (db_nil))) (db_cons (de_fnK K rfl (G_free_lots_told.mono (by decide)) hr hG Z.f_free_lots_told.m Z.f_free_lots_told.F.kp Z.f_free_lots_told.b (by rfl) (db_cons (de_name 3) (db_nil))) (db_nil))))) (da_nil)))) (DE.op (de_callB (cr_reprK K rfl (un70 hr) hG) (@cs_repr _) bt_repr (by rfl) Z.n_repr (da_cons (DL.op (dl_lst (db_cons (de_name 9) (db_cons (de_name 10) (db_nil))))) (da_nil))))) (dss_one (ds_ret (de_bl))) (dss_nil)) (dss_cons (ds_set 11 sc_law.nd (de_fnK K rfl (G_all_products.mono (by decide)) hr hG Z.f_all_products.m Z.f_all_products.F.kp Z.f_all_products.b (by rfl) (db_cons (de_name 3) (db_nil)))) (dss_cons (ds_if (dt_cmp (op_neK K rfl (un64 hr)) (@rs_ne _) (by rfl) (DE.op (de_callB (cr_reprK K rfl (un70 hr) hG) (@cs_repr _) bt_repr (by rfl) Z.n_repr (da_cons (do_name 11) (da_nil)))) (DE.op (de_callB (cr_reprK K rfl (un70 hr) hG) (@cs_repr _) bt_repr (by rfl) Z.n_repr (da_cons (DE.op (de_callT (cr_tupleK K rfl) (@cs_tuple _) boot_tuple (by rfl) Z.n_tuple (da_cons (DL.op (dl_lcV rfl sc_law.nd (di_itemsK K rfl (de_name 9)) [("lot", 12)] (blkOk_by (N := ["script", "source", "lap", "frame", "n", "m", "kept", "heights", "rises", "lots", "free", "products", "lot", "product", "worth", "r", "loops", "whole", "due", "c", "a", "b"]) (sc := defScope s_law) (by decide +kernel)) (fun _ _ _ _ _ => dg_name 12 sc_law.nd) (fun _ _ _ _ _ => dtt_nil) (fun _ _ _ _ _ => de_fnK K rfl (G__law_product.mono (by decide)) hr hG Z.f__law_product.m Z.f__law_product.F.kp Z.f__law_product.b (by rfl) (db_cons (de_name 3) (db_cons (de_name 12) (db_nil)))) (by decide))) (da_nil)))) (da_nil))))) (dss_one (ds_ret (de_bl))) (dss_nil)) (dss_cons (ds_for PassesOwn.never rfl (di_zpPK K rfl (by rfl) Z.n_zip (db_cons (de_name 9) (db_cons (de_name 11) (db_nil)))) (dg_tupK K rfl rfl (dgs_cons (dg_name 12 sc_law.nd) (dgs_cons (dg_name 13 sc_law.nd) (dgs_nil)))) (dss_cons (ds_set 14 sc_law.nd (de_int)) (dss_cons (ds_for PassesOwn.never rfl (di_itemsK K rfl (de_name 12)) (dg_name 15 sc_law.nd) (dss_one (ds_set 14 sc_law.nd (de_op op_mulW (@rs_mulI _) (do_name 14) (DE.op (de_ixK K rfl (un1 hr) (fun _ _ => rfl) (do_name 8) (de_name 15))))))) (dss_cons (ds_lcF 16 rfl sc_law.nd (di_itemsK K rfl (de_name 12)) [("r", 15)] (blkOk_by (N := ["script", "source", "lap", "frame", "n", "m", "kept", "heights", "rises", "lots", "free", "products", "lot", "product", "worth", "r", "loops", "whole", "due", "c", "a", "b"]) (sc := defScope s_law) (by decide +kernel)) (fun _ _ _ _ _ => dg_name 15 sc_law.nd) (fun _ _ _ _ _ => dtt_one (dt_cmp (op_eqK K rfl (un64 hr)) (@rs_eq _) (by rfl) (DE.op (de_ixK K rfl (un1 hr) (fun _ _ => rfl) (DE.op (de_ixK K rfl (un1 hr) (fun _ _ => rfl) (DE.op (de_ixK K rfl (un1 hr) (fun _ _ => rfl) (do_name 3) (de_int))) (de_name 15))) (de_int))) (DE.op (de_ixK K rfl (un1 hr) (fun _ _ => rfl) (DE.op (de_ixK K rfl (un1 hr) (fun _ _ => rfl) (DE.op (de_ixK K rfl (un1 hr) (fun _ _ => rfl) (do_name 3) (de_int))) (de_name 15))) (de_int))))) (fun _ _ _ _ _ => de_name 15) (by decide)) (dss_cons (ds_if (DW.t (dw_or (dt_cmp (op_neK K rfl (un64 hr)) (@rs_ne _) (by rfl) (DE.op (de_fnK K rfl (G_worth_of.mono (by decide)) hr hG Z.f_worth_of.m Z.f_worth_of.F.kp Z.f_worth_of.b (by rfl) (db_cons (de_name 13) (db_cons (de_name 7) (db_nil))))) (do_name 14)) (dw_or1 (dt_cmp (op_neK K rfl (un64 hr)) (@rs_ne _) (by rfl) (DE.op (de_fnK K rfl (G_degree_of.mono (by decide)) hr hG Z.f_degree_of.m Z.f_degree_of.F.kp Z.f_degree_of.b (by rfl) (db_cons (de_name 13) (db_nil)))) (DE.op (de_ifExp (dt_cmp (op_eqK K rfl (un64 hr)) (@rs_eq _) (by rfl) (do_name 16) (DL.op (dl_lst (db_nil)))) (de_callB (cr_lenX K rfl) (@cs_lenX _) boot_len (by rfl) Z.n_len (da_cons (do_name 12) (da_nil))) (de_neg (DE.op (de_int))))))))) (dss_one (ds_ret (de_bl))) (dss_nil)) (dss_one (ds_if (DW.t (dw_or (dt_cmp (op_neK K rfl (un64 hr)) (@rs_ne _) (by rfl) (DE.op (de_callB (cr_reprK K rfl (un70 hr) hG) (@cs_repr _) bt_repr (by rfl) Z.n_repr (da_cons (DE.op (de_fnK K rfl (G_is_free_lot.mono (by decide)) hr hG Z.f_is_free_lot.m Z.f_is_free_lot.F.kp Z.f_is_free_lot.b (by rfl) (db_cons (de_name 3) (db_cons (de_name 12) (db_nil))))) (da_nil)))) (DE.op (de_callB (cr_reprK K rfl (un70 hr) hG) (@cs_repr _) bt_repr (by rfl) Z.n_repr (da_cons (DE.op (de_cmp1 (op_inK K rfl (un65 hr)) (@rs_in _) (by rfl) (de_name 12) (do_name 10))) (da_nil))))) (dw_or1 (dt_cmp (op_neK K rfl (un64 hr)) (@rs_ne _) (by rfl) (DE.op (de_callB (cr_reprK K rfl (un70 hr) hG) (@cs_repr _) bt_repr (by rfl) Z.n_repr (da_cons (DE.op (de_fnK K rfl (G_product_of.mono (by decide)) hr hG Z.f_product_of.m Z.f_product_of.F.kp Z.f_product_of.b (by rfl) (db_cons (de_name 3) (db_cons (de_name 12) (db_nil))))) (da_nil)))) (DE.op (de_callB (cr_reprK K rfl (un70 hr) hG) (@cs_repr _) bt_repr (by rfl) Z.n_repr (da_cons (do_name 13) (da_nil)))))))) (dss_one (ds_ret (de_bl))) (dss_nil)))))))) (dss_cons (ds_if (dt_cmp (op_eqK K rfl (un64 hr)) (@rs_eq _) (by rfl) (DE.op (de_fnK K rfl (G__law_many_pieces.mono (by decide)) hr hG Z.f__law_many_pieces.m Z.f__law_many_pieces.F.kp Z.f__law_many_pieces.b (by rfl) (db_cons (de_name 3) (db_cons (DL.fr (dl_listRg rfl (by rfl) Z.n_list (drg_1 (by rfl) Z.n_range (do_name 5)))) (db_nil))))) (DE.op (de_int))) (dss_cons (ds_set 17 sc_law.nd (de_fnK K rfl (G__law_whole_lots.mono (by decide)) hr hG Z.f__law_whole_lots.m Z.f__law_whole_lots.F.kp Z.f__law_whole_lots.b (by rfl) (db_cons (de_name 3) (db_nil)))) (dss_cons (ds_set 18 sc_law.nd (de_callT (cr_tupleK K rfl) (@cs_tuple _) boot_tuple (by rfl) Z.n_tuple (da_cons (DL.op (dl_lcV rfl sc_law.nd (di_itemsK K rfl (de_name 17)) [("lot", 12)] (blkOk_by (N := ["script", "source", "lap", "frame", "n", "m", "kept", "heights", "rises", "lots", "free", "products", "lot", "product", "worth", "r", "loops", "whole", "due", "c", "a", "b"]) (sc := defScope s_law) (by decide +kernel)) (fun _ _ _ _ _ => dg_name 12 sc_law.nd) (fun _ _ _ _ _ => dtt_nil) (fun _ _ _ _ _ => de_fnK K rfl (G__law_product.mono (by decide)) hr hG Z.f__law_product.m Z.f__law_product.F.kp Z.f__law_product.b (by rfl) (db_cons (de_name 3) (db_cons (de_name 12) (db_nil)))) (by decide))) (da_nil)))) (dss_cons (ds_if (dt_cmp (op_neK K rfl (un64 hr)) (@rs_ne _) (by rfl) (DE.op (de_callB (cr_reprK K rfl (un70 hr) hG) (@cs_repr _) bt_repr (by rfl) Z.n_repr (da_cons (DL.op (dl_lst (db_cons (de_fnK K rfl (G_whole_lots.mono (by decide)) hr hG Z.f_whole_lots.m Z.f_whole_lots.F.kp Z.f_whole_lots.b (by rfl) (db_cons (de_name 3) (db_nil))) (db_cons (de_fnK K rfl (G_whole_products.mono (by decide)) hr hG Z.f_whole_products.m Z.f_whole_products.F.kp Z.f_whole_products.b (by rfl) (db_cons (de_name 3) (db_nil))) (db_nil))))) (da_nil)))) (DE.op (de_callB (cr_reprK K rfl (un70 hr) hG) (@cs_repr _) bt_repr (by rfl) Z.n_repr (da_cons (DL.op (dl_lst (db_cons (de_name 17) (db_cons (de_name 18) (db_nil))))) (da_nil))))) (dss_one (ds_ret (de_bl))) (dss_nil)) (dss_one (ds_if (dt_cmp (op_neK K rfl (un64 hr)) (@rs_ne _) (by rfl) (DL.op (dl_lcV rfl sc_law.nd (di_itemsK K rfl (de_name 9)) [("lot", 12)] (blkOk_by (N := ["script", "source", "lap", "frame", "n", "m", "kept", "heights", "rises", "lots", "free", "products", "lot", "product", "worth", "r", "loops", "whole", "due", "c", "a", "b"]) (sc := defScope s_law) (by decide +kernel)) (fun _ _ _ _ _ => dg_name 12 sc_law.nd) (fun _ _ _ _ _ => dtt_one (dt_cmp (op_neK K rfl (un64 hr)) (@rs_ne _) (by rfl) (DE.op (de_callB (cr_reprK K rfl (un70 hr) hG) (@cs_repr _) bt_repr (by rfl) Z.n_repr (da_cons (DE.op (de_fnK K rfl (G_is_whole_lot.mono (by decide)) hr hG Z.f_is_whole_lot.m Z.f_is_whole_lot.F.kp Z.f_is_whole_lot.b (by rfl) (db_cons (de_name 3) (db_cons (de_name 12) (db_nil))))) (da_nil)))) (DE.op (de_callB (cr_reprK K rfl (un70 hr) hG) (@cs_repr _) bt_repr (by rfl) Z.n_repr (da_cons (DE.op (de_cmp1 (op_inK K rfl (un65 hr)) (@rs_in _) (by rfl) (de_name 12) (do_name 17))) (da_nil)))))) (fun _ _ _ _ _ => de_name 12) (by decide))) (DL.op (dl_lst (db_nil)))) (dss_one (ds_ret (de_bl))) (dss_nil)))))) (dss_nil)) (dss_one (ds_if (dt_cmp (op_neK K rfl (un64 hr)) (@rs_ne _) (by rfl) (DE.op (de_callB (cr_reprK K rfl (un70 hr) hG) (@cs_repr _) bt_repr (by rfl) Z.n_repr (da_cons (do_name 3) (da_nil)))) (do_name 6)) (dss_one (ds_ret (de_bl))) (dss_nil))))))))))))))) (dss_one (ds_ret (de_cmp (op_eqK K rfl (un64 hr)) (@rs_eq _) (by rfl) (DE.op (de_fnK K rfl (G_product_of.mono (by decide)) hr hG Z.f_product_of.m Z.f_product_of.F.kp Z.f_product_of.b (by rfl) (db_cons (de_tup (db_cons (de_int) (db_cons (de_tup (db_cons (de_tup (db_cons (de_int) (db_cons (de_int) (db_nil)))) (db_cons (de_tup (db_cons (de_int) (db_cons (de_int) (db_nil)))) (db_cons (de_tup (db_cons (de_int) (db_cons (de_int) (db_nil)))) (db_nil))))) (db_nil)))) (db_cons (de_tup (db_cons (de_int) (db_cons (de_int) (db_nil)))) (db_nil))))) (DE.op (de_tup (db_cons (de_tup (db_cons (de_tup (db_cons (de_int) (db_cons (de_int) (db_nil)))) (db_cons (de_int) (db_nil)))) (db_cons (de_tup (db_cons (de_tup (db_cons (de_int) (db_cons (de_int) (db_nil)))) (db_cons (de_neg (DE.op (de_int))) (db_nil)))) (db_nil))))))))⟩) hw
end
-- levels: degree_of 1, worth_of 1, told_polynomial 1, unit_powers 1, line_of 2, added_powers 1, polynomial_product 2, product_of 3, all_roads 1, road_lots 2, heads_by 1, pieces_by 2, piece_count 3, is_whole_lot 4, whole_lots 5, is_free_lot 4, free_lots_told 5, all_products 4, whole_products 6, _law_source 1, _law_pick 1, _law_mixed 2, _law_hung 3, _law_frame 4, _law_told 1, _law_sum 2, _law_unit 1, _law_line 3, _law_times 2, _law_one 1, _law_product 4, _law_lots 1, _law_pieces 1, _law_many_pieces 2, _law_free_lots 3, _law_whole_lots 3, law 7
end K09

set_option Elab.async false
set_option linter.all false
set_option maxRecDepth 100000
namespace K09
open PySem PySem.Spec PyProof.Rows L2 W2 PySem.W Sm Po Li
/-! the pieces of the law's body (printed by splitL.py) -/
def rL_0 : WS := (wSeq (wFor (wRng1 (wC (.int 4))) (wGn 2) (wSeq (wAsg (wFnS 1 2 wf_lframe (wCons (W2.w2 gIxA (wLst (wCons (wC (.int 2)) (wCons (wC (.int 3)) (wCons (wC (.int 4)) (wCons (wC (.int 5)) (wNil)))))) (wN 2)) (wCons (W2.w2 gIxA (wLst (wCons (wC (.int 3)) (wCons (wC (.int 4)) (wCons (wC (.int 5)) (wCons (wC (.int 5)) (wNil)))))) (wN 2)) (wNil)))) (wGn 3)) (wSeq (wPar [4, 5, 6] (wMFz (W2.w2 gIxA (wB 3) (wC (.int 0))) (wMFz (wCall gLenX (wCons (W2.w2 gIxA (wB 3) (wC (.int 1))) (wNil))) (wMFz (wCall gRepr (wCons (wB 3) (wNil))) (wMNil))))) (wSeq (wAsg (wCall gTuple (wCons (wLc (wRng1 (wB 4)) (wGn 19) (wYes) (W2.w2 gSubI (wFnS 1 1 wfPick (wCons (wC (.int 21)) (wNil))) (wC (.int 10))) [19]) (wNil))) (wGn 7)) (wSeq (wAsg (wLc (wItems (W2.w2 gIxA (wB 3) (wC (.int 1)))) (wGt 2 (wGcons (wGn 20) (wGcons (wGn 21) (wGnil)))) (wYes) (W2.w2 gSubI (W2.w2 gIxA (wB 7) (wN 21)) (W2.w2 gIxA (wB 7) (wN 20))) [20, 21]) (wGn 8)) (wSeq (wIf (wTrB (W2.w2 gNe (wLc (wRng1 (wB 5)) (wGn 15) (wTrB (W2.w2 gNe (wCall gRepr (wCons (wFn 2 wf_line (wCons (wN 3) (wCons (wN 15) (wNil)))) (wNil))) (wCall gRepr (wCons (wFn 2 wf_lline (wCons (wN 3) (wCons (wN 15) (wNil)))) (wNil))))) (wN 15) [15]) (wLst (wNil)))) (wRet (wC (.bool false))) (wNext)) (wSeq (wPar [9, 10] (wMFz (wFn 1 wf_lots (wCons (wN 5) (wNil))) (wMFz (wFn 1 wf_frees (wCons (wN 3) (wNil))) (wMNil)))) (wSeq (wIf (wTrB (W2.w2 gNe (wCall gRepr (wCons (wLst (wCons (wFn 1 wf_rlots (wCons (wN 3) (wNil))) (wCons (wFn 1 wf_frees (wCons (wN 3) (wNil))) (wNil)))) (wNil))) (wCall gRepr (wCons (wLst (wCons (wN 9) (wCons (wN 10) (wNil)))) (wNil))))) (wRet (wC (.bool false))) (wNext)) (wSeq (wAsg (wFn 1 wf_allp (wCons (wN 3) (wNil))) (wGn 11)) (wSeq (wIf (wTrB (W2.w2 gNe (wCall gRepr (wCons (wB 11) (wNil))) (wCall gRepr (wCons (wCall gTuple (wCons (wLc (wItems (wN 9)) (wGn 12) (wYes) (wFn 2 wf_lprod (wCons (wN 3) (wCons (wN 12) (wNil)))) [12]) (wNil))) (wNil))))) (wRet (wC (.bool false))) (wNext)) (wSeq (wFor (wZip false (wCons (wN 9) (wCons (wN 11) (wNil)))) (wGt 2 (wGcons (wGn 12) (wGcons (wGn 13) (wGnil)))) (wSeq (wAsg (wC (.int 1)) (wGn 14)) (wSeq (wFor (wItems (wN 12)) (wGn 15) (wAsg (W2.w2 gMulI (wB 14) (W2.w2 gIxA (wB 8) (wN 15))) (wGn 14))) (wSeq (wAsg (wLc (wItems (wN 12)) (wGn 15) (wTrB (W2.w2 gEq (W2.w2 gIxA (W2.w2 gIxA (W2.w2 gIxA (wB 3) (wC (.int 1))) (wN 15)) (wC (.int 0))) (W2.w2 gIxA (W2.w2 gIxA (W2.w2 gIxA (wB 3) (wC (.int 1))) (wN 15)) (wC (.int 1))))) (wN 15) [15]) (wGn 16)) (wSeq (wIf (wOrT (wTrB (W2.w2 gNe (wFn 2 wf_worth (wCons (wN 13) (wCons (wN 7) (wNil)))) (wB 14))) (wTrB (W2.w2 gNe (wFn 1 wf_deg (wCons (wN 13) (wNil))) (wIfE (wTrB (W2.w2 gEq (wB 16) (wLst (wNil)))) (wCall gLenX (wCons (wB 12) (wNil))) (w1 gNeg (wC (.int 1))))))) (wRet (wC (.bool false))) (wNext)) (wIf (wOrT (wTrB (W2.w2 gNe (wCall gRepr (wCons (wFn 2 wf_isf (wCons (wN 3) (wCons (wN 12) (wNil)))) (wNil))) (wCall gRepr (wCons (W2.w2 (gInA false) (wN 12) (wB 10)) (wNil))))) (wTrB (W2.w2 gNe (wCall gRepr (wCons (wFn 2 wf_prod (wCons (wN 3) (wCons (wN 12) (wNil)))) (wNil))) (wCall gRepr (wCons (wB 13) (wNil)))))) (wRet (wC (.bool false))) (wNext))))))) (wSeq (wIf (wTrB (W2.w2 gEq (wFn 2 wf_manyX (wCons (wN 3) (wCons (wLstRg (wR1 (wB 5))) (wNil)))) (wC (.int 1)))) (wSeq (wAsg (wFn 1 wf_wholes (wCons (wN 3) (wNil))) (wGn 17)) (wSeq (wAsg (wCall gTuple (wCons (wLc (wItems (wN 17)) (wGn 12) (wYes) (wFn 2 wf_lprod (wCons (wN 3) (wCons (wN 12) (wNil)))) [12]) (wNil))) (wGn 18)) (wSeq (wIf (wTrB (W2.w2 gNe (wCall gRepr (wCons (wLst (wCons (wFn 1 wf_wholes (wCons (wN 3) (wNil))) (wCons (wFn 1 wf_wholep (wCons (wN 3) (wNil))) (wNil)))) (wNil))) (wCall gRepr (wCons (wLst (wCons (wN 17) (wCons (wN 18) (wNil)))) (wNil))))) (wRet (wC (.bool false))) (wNext)) (wIf (wTrB (W2.w2 gNe (wLc (wItems (wN 9)) (wGn 12) (wTrB (W2.w2 gNe (wCall gRepr (wCons (wFn 2 wf_isw (wCons (wN 3) (wCons (wN 12) (wNil)))) (wNil))) (wCall gRepr (wCons (W2.w2 (gInA false) (wN 12) (wB 17)) (wNil))))) (wN 12) [12]) (wLst (wNil)))) (wRet (wC (.bool false))) (wNext))))) (wNext)) (wIf (wTrB (W2.w2 gNe (wCall gRepr (wCons (wB 3) (wNil))) (wB 6))) (wRet (wC (.bool false))) (wNext)))))))))))))) (wRet (W2.w2 gEq (wFn 2 wf_prod (wCons (wTup (wCons (wC (.int 3)) (wCons (wTup (wCons (wTup (wCons (wC (.int 0)) (wCons (wC (.int 1)) (wNil)))) (wCons (wTup (wCons (wC (.int 1)) (wCons (wC (.int 2)) (wNil)))) (wCons (wTup (wCons (wC (.int 2)) (wCons (wC (.int 0)) (wNil)))) (wNil))))) (wNil)))) (wCons (wTup (wCons (wC (.int 0)) (wCons (wC (.int 1)) (wNil)))) (wNil)))) (wTup (wCons (wTup (wCons (wTup (wCons (wC (.int 1)) (wCons (wC (.int 1)) (wNil)))) (wCons (wC (.int 1)) (wNil)))) (wCons (wTup (wCons (wTup (wCons (wC (.int 2)) (wCons (wC (.int 0)) (wNil)))) (wCons (w1 gNeg (wC (.int 1))) (wNil)))) (wNil)))))))
def rL_1 : WS := (wRet (W2.w2 gEq (wFn 2 wf_prod (wCons (wTup (wCons (wC (.int 3)) (wCons (wTup (wCons (wTup (wCons (wC (.int 0)) (wCons (wC (.int 1)) (wNil)))) (wCons (wTup (wCons (wC (.int 1)) (wCons (wC (.int 2)) (wNil)))) (wCons (wTup (wCons (wC (.int 2)) (wCons (wC (.int 0)) (wNil)))) (wNil))))) (wNil)))) (wCons (wTup (wCons (wC (.int 0)) (wCons (wC (.int 1)) (wNil)))) (wNil)))) (wTup (wCons (wTup (wCons (wTup (wCons (wC (.int 1)) (wCons (wC (.int 1)) (wNil)))) (wCons (wC (.int 1)) (wNil)))) (wCons (wTup (wCons (wTup (wCons (wC (.int 2)) (wCons (wC (.int 0)) (wNil)))) (wCons (w1 gNeg (wC (.int 1))) (wNil)))) (wNil))))))
def rLa_0 : WS := (wSeq (wAsg (wFnS 1 2 wf_lframe (wCons (W2.w2 gIxA (wLst (wCons (wC (.int 2)) (wCons (wC (.int 3)) (wCons (wC (.int 4)) (wCons (wC (.int 5)) (wNil)))))) (wN 2)) (wCons (W2.w2 gIxA (wLst (wCons (wC (.int 3)) (wCons (wC (.int 4)) (wCons (wC (.int 5)) (wCons (wC (.int 5)) (wNil)))))) (wN 2)) (wNil)))) (wGn 3)) (wSeq (wPar [4, 5, 6] (wMFz (W2.w2 gIxA (wB 3) (wC (.int 0))) (wMFz (wCall gLenX (wCons (W2.w2 gIxA (wB 3) (wC (.int 1))) (wNil))) (wMFz (wCall gRepr (wCons (wB 3) (wNil))) (wMNil))))) (wSeq (wAsg (wCall gTuple (wCons (wLc (wRng1 (wB 4)) (wGn 19) (wYes) (W2.w2 gSubI (wFnS 1 1 wfPick (wCons (wC (.int 21)) (wNil))) (wC (.int 10))) [19]) (wNil))) (wGn 7)) (wSeq (wAsg (wLc (wItems (W2.w2 gIxA (wB 3) (wC (.int 1)))) (wGt 2 (wGcons (wGn 20) (wGcons (wGn 21) (wGnil)))) (wYes) (W2.w2 gSubI (W2.w2 gIxA (wB 7) (wN 21)) (W2.w2 gIxA (wB 7) (wN 20))) [20, 21]) (wGn 8)) (wSeq (wIf (wTrB (W2.w2 gNe (wLc (wRng1 (wB 5)) (wGn 15) (wTrB (W2.w2 gNe (wCall gRepr (wCons (wFn 2 wf_line (wCons (wN 3) (wCons (wN 15) (wNil)))) (wNil))) (wCall gRepr (wCons (wFn 2 wf_lline (wCons (wN 3) (wCons (wN 15) (wNil)))) (wNil))))) (wN 15) [15]) (wLst (wNil)))) (wRet (wC (.bool false))) (wNext)) (wSeq (wPar [9, 10] (wMFz (wFn 1 wf_lots (wCons (wN 5) (wNil))) (wMFz (wFn 1 wf_frees (wCons (wN 3) (wNil))) (wMNil)))) (wSeq (wIf (wTrB (W2.w2 gNe (wCall gRepr (wCons (wLst (wCons (wFn 1 wf_rlots (wCons (wN 3) (wNil))) (wCons (wFn 1 wf_frees (wCons (wN 3) (wNil))) (wNil)))) (wNil))) (wCall gRepr (wCons (wLst (wCons (wN 9) (wCons (wN 10) (wNil)))) (wNil))))) (wRet (wC (.bool false))) (wNext)) (wSeq (wAsg (wFn 1 wf_allp (wCons (wN 3) (wNil))) (wGn 11)) (wSeq (wIf (wTrB (W2.w2 gNe (wCall gRepr (wCons (wB 11) (wNil))) (wCall gRepr (wCons (wCall gTuple (wCons (wLc (wItems (wN 9)) (wGn 12) (wYes) (wFn 2 wf_lprod (wCons (wN 3) (wCons (wN 12) (wNil)))) [12]) (wNil))) (wNil))))) (wRet (wC (.bool false))) (wNext)) (wSeq (wFor (wZip false (wCons (wN 9) (wCons (wN 11) (wNil)))) (wGt 2 (wGcons (wGn 12) (wGcons (wGn 13) (wGnil)))) (wSeq (wAsg (wC (.int 1)) (wGn 14)) (wSeq (wFor (wItems (wN 12)) (wGn 15) (wAsg (W2.w2 gMulI (wB 14) (W2.w2 gIxA (wB 8) (wN 15))) (wGn 14))) (wSeq (wAsg (wLc (wItems (wN 12)) (wGn 15) (wTrB (W2.w2 gEq (W2.w2 gIxA (W2.w2 gIxA (W2.w2 gIxA (wB 3) (wC (.int 1))) (wN 15)) (wC (.int 0))) (W2.w2 gIxA (W2.w2 gIxA (W2.w2 gIxA (wB 3) (wC (.int 1))) (wN 15)) (wC (.int 1))))) (wN 15) [15]) (wGn 16)) (wSeq (wIf (wOrT (wTrB (W2.w2 gNe (wFn 2 wf_worth (wCons (wN 13) (wCons (wN 7) (wNil)))) (wB 14))) (wTrB (W2.w2 gNe (wFn 1 wf_deg (wCons (wN 13) (wNil))) (wIfE (wTrB (W2.w2 gEq (wB 16) (wLst (wNil)))) (wCall gLenX (wCons (wB 12) (wNil))) (w1 gNeg (wC (.int 1))))))) (wRet (wC (.bool false))) (wNext)) (wIf (wOrT (wTrB (W2.w2 gNe (wCall gRepr (wCons (wFn 2 wf_isf (wCons (wN 3) (wCons (wN 12) (wNil)))) (wNil))) (wCall gRepr (wCons (W2.w2 (gInA false) (wN 12) (wB 10)) (wNil))))) (wTrB (W2.w2 gNe (wCall gRepr (wCons (wFn 2 wf_prod (wCons (wN 3) (wCons (wN 12) (wNil)))) (wNil))) (wCall gRepr (wCons (wB 13) (wNil)))))) (wRet (wC (.bool false))) (wNext))))))) (wSeq (wIf (wTrB (W2.w2 gEq (wFn 2 wf_manyX (wCons (wN 3) (wCons (wLstRg (wR1 (wB 5))) (wNil)))) (wC (.int 1)))) (wSeq (wAsg (wFn 1 wf_wholes (wCons (wN 3) (wNil))) (wGn 17)) (wSeq (wAsg (wCall gTuple (wCons (wLc (wItems (wN 17)) (wGn 12) (wYes) (wFn 2 wf_lprod (wCons (wN 3) (wCons (wN 12) (wNil)))) [12]) (wNil))) (wGn 18)) (wSeq (wIf (wTrB (W2.w2 gNe (wCall gRepr (wCons (wLst (wCons (wFn 1 wf_wholes (wCons (wN 3) (wNil))) (wCons (wFn 1 wf_wholep (wCons (wN 3) (wNil))) (wNil)))) (wNil))) (wCall gRepr (wCons (wLst (wCons (wN 17) (wCons (wN 18) (wNil)))) (wNil))))) (wRet (wC (.bool false))) (wNext)) (wIf (wTrB (W2.w2 gNe (wLc (wItems (wN 9)) (wGn 12) (wTrB (W2.w2 gNe (wCall gRepr (wCons (wFn 2 wf_isw (wCons (wN 3) (wCons (wN 12) (wNil)))) (wNil))) (wCall gRepr (wCons (W2.w2 (gInA false) (wN 12) (wB 17)) (wNil))))) (wN 12) [12]) (wLst (wNil)))) (wRet (wC (.bool false))) (wNext))))) (wNext)) (wIf (wTrB (W2.w2 gNe (wCall gRepr (wCons (wB 3) (wNil))) (wB 6))) (wRet (wC (.bool false))) (wNext)))))))))))))
def rLa_1 : WS := (wSeq (wPar [4, 5, 6] (wMFz (W2.w2 gIxA (wB 3) (wC (.int 0))) (wMFz (wCall gLenX (wCons (W2.w2 gIxA (wB 3) (wC (.int 1))) (wNil))) (wMFz (wCall gRepr (wCons (wB 3) (wNil))) (wMNil))))) (wSeq (wAsg (wCall gTuple (wCons (wLc (wRng1 (wB 4)) (wGn 19) (wYes) (W2.w2 gSubI (wFnS 1 1 wfPick (wCons (wC (.int 21)) (wNil))) (wC (.int 10))) [19]) (wNil))) (wGn 7)) (wSeq (wAsg (wLc (wItems (W2.w2 gIxA (wB 3) (wC (.int 1)))) (wGt 2 (wGcons (wGn 20) (wGcons (wGn 21) (wGnil)))) (wYes) (W2.w2 gSubI (W2.w2 gIxA (wB 7) (wN 21)) (W2.w2 gIxA (wB 7) (wN 20))) [20, 21]) (wGn 8)) (wSeq (wIf (wTrB (W2.w2 gNe (wLc (wRng1 (wB 5)) (wGn 15) (wTrB (W2.w2 gNe (wCall gRepr (wCons (wFn 2 wf_line (wCons (wN 3) (wCons (wN 15) (wNil)))) (wNil))) (wCall gRepr (wCons (wFn 2 wf_lline (wCons (wN 3) (wCons (wN 15) (wNil)))) (wNil))))) (wN 15) [15]) (wLst (wNil)))) (wRet (wC (.bool false))) (wNext)) (wSeq (wPar [9, 10] (wMFz (wFn 1 wf_lots (wCons (wN 5) (wNil))) (wMFz (wFn 1 wf_frees (wCons (wN 3) (wNil))) (wMNil)))) (wSeq (wIf (wTrB (W2.w2 gNe (wCall gRepr (wCons (wLst (wCons (wFn 1 wf_rlots (wCons (wN 3) (wNil))) (wCons (wFn 1 wf_frees (wCons (wN 3) (wNil))) (wNil)))) (wNil))) (wCall gRepr (wCons (wLst (wCons (wN 9) (wCons (wN 10) (wNil)))) (wNil))))) (wRet (wC (.bool false))) (wNext)) (wSeq (wAsg (wFn 1 wf_allp (wCons (wN 3) (wNil))) (wGn 11)) (wSeq (wIf (wTrB (W2.w2 gNe (wCall gRepr (wCons (wB 11) (wNil))) (wCall gRepr (wCons (wCall gTuple (wCons (wLc (wItems (wN 9)) (wGn 12) (wYes) (wFn 2 wf_lprod (wCons (wN 3) (wCons (wN 12) (wNil)))) [12]) (wNil))) (wNil))))) (wRet (wC (.bool false))) (wNext)) (wSeq (wFor (wZip false (wCons (wN 9) (wCons (wN 11) (wNil)))) (wGt 2 (wGcons (wGn 12) (wGcons (wGn 13) (wGnil)))) (wSeq (wAsg (wC (.int 1)) (wGn 14)) (wSeq (wFor (wItems (wN 12)) (wGn 15) (wAsg (W2.w2 gMulI (wB 14) (W2.w2 gIxA (wB 8) (wN 15))) (wGn 14))) (wSeq (wAsg (wLc (wItems (wN 12)) (wGn 15) (wTrB (W2.w2 gEq (W2.w2 gIxA (W2.w2 gIxA (W2.w2 gIxA (wB 3) (wC (.int 1))) (wN 15)) (wC (.int 0))) (W2.w2 gIxA (W2.w2 gIxA (W2.w2 gIxA (wB 3) (wC (.int 1))) (wN 15)) (wC (.int 1))))) (wN 15) [15]) (wGn 16)) (wSeq (wIf (wOrT (wTrB (W2.w2 gNe (wFn 2 wf_worth (wCons (wN 13) (wCons (wN 7) (wNil)))) (wB 14))) (wTrB (W2.w2 gNe (wFn 1 wf_deg (wCons (wN 13) (wNil))) (wIfE (wTrB (W2.w2 gEq (wB 16) (wLst (wNil)))) (wCall gLenX (wCons (wB 12) (wNil))) (w1 gNeg (wC (.int 1))))))) (wRet (wC (.bool false))) (wNext)) (wIf (wOrT (wTrB (W2.w2 gNe (wCall gRepr (wCons (wFn 2 wf_isf (wCons (wN 3) (wCons (wN 12) (wNil)))) (wNil))) (wCall gRepr (wCons (W2.w2 (gInA false) (wN 12) (wB 10)) (wNil))))) (wTrB (W2.w2 gNe (wCall gRepr (wCons (wFn 2 wf_prod (wCons (wN 3) (wCons (wN 12) (wNil)))) (wNil))) (wCall gRepr (wCons (wB 13) (wNil)))))) (wRet (wC (.bool false))) (wNext))))))) (wSeq (wIf (wTrB (W2.w2 gEq (wFn 2 wf_manyX (wCons (wN 3) (wCons (wLstRg (wR1 (wB 5))) (wNil)))) (wC (.int 1)))) (wSeq (wAsg (wFn 1 wf_wholes (wCons (wN 3) (wNil))) (wGn 17)) (wSeq (wAsg (wCall gTuple (wCons (wLc (wItems (wN 17)) (wGn 12) (wYes) (wFn 2 wf_lprod (wCons (wN 3) (wCons (wN 12) (wNil)))) [12]) (wNil))) (wGn 18)) (wSeq (wIf (wTrB (W2.w2 gNe (wCall gRepr (wCons (wLst (wCons (wFn 1 wf_wholes (wCons (wN 3) (wNil))) (wCons (wFn 1 wf_wholep (wCons (wN 3) (wNil))) (wNil)))) (wNil))) (wCall gRepr (wCons (wLst (wCons (wN 17) (wCons (wN 18) (wNil)))) (wNil))))) (wRet (wC (.bool false))) (wNext)) (wIf (wTrB (W2.w2 gNe (wLc (wItems (wN 9)) (wGn 12) (wTrB (W2.w2 gNe (wCall gRepr (wCons (wFn 2 wf_isw (wCons (wN 3) (wCons (wN 12) (wNil)))) (wNil))) (wCall gRepr (wCons (W2.w2 (gInA false) (wN 12) (wB 17)) (wNil))))) (wN 12) [12]) (wLst (wNil)))) (wRet (wC (.bool false))) (wNext))))) (wNext)) (wIf (wTrB (W2.w2 gNe (wCall gRepr (wCons (wB 3) (wNil))) (wB 6))) (wRet (wC (.bool false))) (wNext))))))))))))
def rLa_2 : WS := (wSeq (wAsg (wCall gTuple (wCons (wLc (wRng1 (wB 4)) (wGn 19) (wYes) (W2.w2 gSubI (wFnS 1 1 wfPick (wCons (wC (.int 21)) (wNil))) (wC (.int 10))) [19]) (wNil))) (wGn 7)) (wSeq (wAsg (wLc (wItems (W2.w2 gIxA (wB 3) (wC (.int 1)))) (wGt 2 (wGcons (wGn 20) (wGcons (wGn 21) (wGnil)))) (wYes) (W2.w2 gSubI (W2.w2 gIxA (wB 7) (wN 21)) (W2.w2 gIxA (wB 7) (wN 20))) [20, 21]) (wGn 8)) (wSeq (wIf (wTrB (W2.w2 gNe (wLc (wRng1 (wB 5)) (wGn 15) (wTrB (W2.w2 gNe (wCall gRepr (wCons (wFn 2 wf_line (wCons (wN 3) (wCons (wN 15) (wNil)))) (wNil))) (wCall gRepr (wCons (wFn 2 wf_lline (wCons (wN 3) (wCons (wN 15) (wNil)))) (wNil))))) (wN 15) [15]) (wLst (wNil)))) (wRet (wC (.bool false))) (wNext)) (wSeq (wPar [9, 10] (wMFz (wFn 1 wf_lots (wCons (wN 5) (wNil))) (wMFz (wFn 1 wf_frees (wCons (wN 3) (wNil))) (wMNil)))) (wSeq (wIf (wTrB (W2.w2 gNe (wCall gRepr (wCons (wLst (wCons (wFn 1 wf_rlots (wCons (wN 3) (wNil))) (wCons (wFn 1 wf_frees (wCons (wN 3) (wNil))) (wNil)))) (wNil))) (wCall gRepr (wCons (wLst (wCons (wN 9) (wCons (wN 10) (wNil)))) (wNil))))) (wRet (wC (.bool false))) (wNext)) (wSeq (wAsg (wFn 1 wf_allp (wCons (wN 3) (wNil))) (wGn 11)) (wSeq (wIf (wTrB (W2.w2 gNe (wCall gRepr (wCons (wB 11) (wNil))) (wCall gRepr (wCons (wCall gTuple (wCons (wLc (wItems (wN 9)) (wGn 12) (wYes) (wFn 2 wf_lprod (wCons (wN 3) (wCons (wN 12) (wNil)))) [12]) (wNil))) (wNil))))) (wRet (wC (.bool false))) (wNext)) (wSeq (wFor (wZip false (wCons (wN 9) (wCons (wN 11) (wNil)))) (wGt 2 (wGcons (wGn 12) (wGcons (wGn 13) (wGnil)))) (wSeq (wAsg (wC (.int 1)) (wGn 14)) (wSeq (wFor (wItems (wN 12)) (wGn 15) (wAsg (W2.w2 gMulI (wB 14) (W2.w2 gIxA (wB 8) (wN 15))) (wGn 14))) (wSeq (wAsg (wLc (wItems (wN 12)) (wGn 15) (wTrB (W2.w2 gEq (W2.w2 gIxA (W2.w2 gIxA (W2.w2 gIxA (wB 3) (wC (.int 1))) (wN 15)) (wC (.int 0))) (W2.w2 gIxA (W2.w2 gIxA (W2.w2 gIxA (wB 3) (wC (.int 1))) (wN 15)) (wC (.int 1))))) (wN 15) [15]) (wGn 16)) (wSeq (wIf (wOrT (wTrB (W2.w2 gNe (wFn 2 wf_worth (wCons (wN 13) (wCons (wN 7) (wNil)))) (wB 14))) (wTrB (W2.w2 gNe (wFn 1 wf_deg (wCons (wN 13) (wNil))) (wIfE (wTrB (W2.w2 gEq (wB 16) (wLst (wNil)))) (wCall gLenX (wCons (wB 12) (wNil))) (w1 gNeg (wC (.int 1))))))) (wRet (wC (.bool false))) (wNext)) (wIf (wOrT (wTrB (W2.w2 gNe (wCall gRepr (wCons (wFn 2 wf_isf (wCons (wN 3) (wCons (wN 12) (wNil)))) (wNil))) (wCall gRepr (wCons (W2.w2 (gInA false) (wN 12) (wB 10)) (wNil))))) (wTrB (W2.w2 gNe (wCall gRepr (wCons (wFn 2 wf_prod (wCons (wN 3) (wCons (wN 12) (wNil)))) (wNil))) (wCall gRepr (wCons (wB 13) (wNil)))))) (wRet (wC (.bool false))) (wNext))))))) (wSeq (wIf (wTrB (W2.w2 gEq (wFn 2 wf_manyX (wCons (wN 3) (wCons (wLstRg (wR1 (wB 5))) (wNil)))) (wC (.int 1)))) (wSeq (wAsg (wFn 1 wf_wholes (wCons (wN 3) (wNil))) (wGn 17)) (wSeq (wAsg (wCall gTuple (wCons (wLc (wItems (wN 17)) (wGn 12) (wYes) (wFn 2 wf_lprod (wCons (wN 3) (wCons (wN 12) (wNil)))) [12]) (wNil))) (wGn 18)) (wSeq (wIf (wTrB (W2.w2 gNe (wCall gRepr (wCons (wLst (wCons (wFn 1 wf_wholes (wCons (wN 3) (wNil))) (wCons (wFn 1 wf_wholep (wCons (wN 3) (wNil))) (wNil)))) (wNil))) (wCall gRepr (wCons (wLst (wCons (wN 17) (wCons (wN 18) (wNil)))) (wNil))))) (wRet (wC (.bool false))) (wNext)) (wIf (wTrB (W2.w2 gNe (wLc (wItems (wN 9)) (wGn 12) (wTrB (W2.w2 gNe (wCall gRepr (wCons (wFn 2 wf_isw (wCons (wN 3) (wCons (wN 12) (wNil)))) (wNil))) (wCall gRepr (wCons (W2.w2 (gInA false) (wN 12) (wB 17)) (wNil))))) (wN 12) [12]) (wLst (wNil)))) (wRet (wC (.bool false))) (wNext))))) (wNext)) (wIf (wTrB (W2.w2 gNe (wCall gRepr (wCons (wB 3) (wNil))) (wB 6))) (wRet (wC (.bool false))) (wNext)))))))))))
def rLa_3 : WS := (wSeq (wAsg (wLc (wItems (W2.w2 gIxA (wB 3) (wC (.int 1)))) (wGt 2 (wGcons (wGn 20) (wGcons (wGn 21) (wGnil)))) (wYes) (W2.w2 gSubI (W2.w2 gIxA (wB 7) (wN 21)) (W2.w2 gIxA (wB 7) (wN 20))) [20, 21]) (wGn 8)) (wSeq (wIf (wTrB (W2.w2 gNe (wLc (wRng1 (wB 5)) (wGn 15) (wTrB (W2.w2 gNe (wCall gRepr (wCons (wFn 2 wf_line (wCons (wN 3) (wCons (wN 15) (wNil)))) (wNil))) (wCall gRepr (wCons (wFn 2 wf_lline (wCons (wN 3) (wCons (wN 15) (wNil)))) (wNil))))) (wN 15) [15]) (wLst (wNil)))) (wRet (wC (.bool false))) (wNext)) (wSeq (wPar [9, 10] (wMFz (wFn 1 wf_lots (wCons (wN 5) (wNil))) (wMFz (wFn 1 wf_frees (wCons (wN 3) (wNil))) (wMNil)))) (wSeq (wIf (wTrB (W2.w2 gNe (wCall gRepr (wCons (wLst (wCons (wFn 1 wf_rlots (wCons (wN 3) (wNil))) (wCons (wFn 1 wf_frees (wCons (wN 3) (wNil))) (wNil)))) (wNil))) (wCall gRepr (wCons (wLst (wCons (wN 9) (wCons (wN 10) (wNil)))) (wNil))))) (wRet (wC (.bool false))) (wNext)) (wSeq (wAsg (wFn 1 wf_allp (wCons (wN 3) (wNil))) (wGn 11)) (wSeq (wIf (wTrB (W2.w2 gNe (wCall gRepr (wCons (wB 11) (wNil))) (wCall gRepr (wCons (wCall gTuple (wCons (wLc (wItems (wN 9)) (wGn 12) (wYes) (wFn 2 wf_lprod (wCons (wN 3) (wCons (wN 12) (wNil)))) [12]) (wNil))) (wNil))))) (wRet (wC (.bool false))) (wNext)) (wSeq (wFor (wZip false (wCons (wN 9) (wCons (wN 11) (wNil)))) (wGt 2 (wGcons (wGn 12) (wGcons (wGn 13) (wGnil)))) (wSeq (wAsg (wC (.int 1)) (wGn 14)) (wSeq (wFor (wItems (wN 12)) (wGn 15) (wAsg (W2.w2 gMulI (wB 14) (W2.w2 gIxA (wB 8) (wN 15))) (wGn 14))) (wSeq (wAsg (wLc (wItems (wN 12)) (wGn 15) (wTrB (W2.w2 gEq (W2.w2 gIxA (W2.w2 gIxA (W2.w2 gIxA (wB 3) (wC (.int 1))) (wN 15)) (wC (.int 0))) (W2.w2 gIxA (W2.w2 gIxA (W2.w2 gIxA (wB 3) (wC (.int 1))) (wN 15)) (wC (.int 1))))) (wN 15) [15]) (wGn 16)) (wSeq (wIf (wOrT (wTrB (W2.w2 gNe (wFn 2 wf_worth (wCons (wN 13) (wCons (wN 7) (wNil)))) (wB 14))) (wTrB (W2.w2 gNe (wFn 1 wf_deg (wCons (wN 13) (wNil))) (wIfE (wTrB (W2.w2 gEq (wB 16) (wLst (wNil)))) (wCall gLenX (wCons (wB 12) (wNil))) (w1 gNeg (wC (.int 1))))))) (wRet (wC (.bool false))) (wNext)) (wIf (wOrT (wTrB (W2.w2 gNe (wCall gRepr (wCons (wFn 2 wf_isf (wCons (wN 3) (wCons (wN 12) (wNil)))) (wNil))) (wCall gRepr (wCons (W2.w2 (gInA false) (wN 12) (wB 10)) (wNil))))) (wTrB (W2.w2 gNe (wCall gRepr (wCons (wFn 2 wf_prod (wCons (wN 3) (wCons (wN 12) (wNil)))) (wNil))) (wCall gRepr (wCons (wB 13) (wNil)))))) (wRet (wC (.bool false))) (wNext))))))) (wSeq (wIf (wTrB (W2.w2 gEq (wFn 2 wf_manyX (wCons (wN 3) (wCons (wLstRg (wR1 (wB 5))) (wNil)))) (wC (.int 1)))) (wSeq (wAsg (wFn 1 wf_wholes (wCons (wN 3) (wNil))) (wGn 17)) (wSeq (wAsg (wCall gTuple (wCons (wLc (wItems (wN 17)) (wGn 12) (wYes) (wFn 2 wf_lprod (wCons (wN 3) (wCons (wN 12) (wNil)))) [12]) (wNil))) (wGn 18)) (wSeq (wIf (wTrB (W2.w2 gNe (wCall gRepr (wCons (wLst (wCons (wFn 1 wf_wholes (wCons (wN 3) (wNil))) (wCons (wFn 1 wf_wholep (wCons (wN 3) (wNil))) (wNil)))) (wNil))) (wCall gRepr (wCons (wLst (wCons (wN 17) (wCons (wN 18) (wNil)))) (wNil))))) (wRet (wC (.bool false))) (wNext)) (wIf (wTrB (W2.w2 gNe (wLc (wItems (wN 9)) (wGn 12) (wTrB (W2.w2 gNe (wCall gRepr (wCons (wFn 2 wf_isw (wCons (wN 3) (wCons (wN 12) (wNil)))) (wNil))) (wCall gRepr (wCons (W2.w2 (gInA false) (wN 12) (wB 17)) (wNil))))) (wN 12) [12]) (wLst (wNil)))) (wRet (wC (.bool false))) (wNext))))) (wNext)) (wIf (wTrB (W2.w2 gNe (wCall gRepr (wCons (wB 3) (wNil))) (wB 6))) (wRet (wC (.bool false))) (wNext))))))))))
def rLa_4 : WS := (wSeq (wIf (wTrB (W2.w2 gNe (wLc (wRng1 (wB 5)) (wGn 15) (wTrB (W2.w2 gNe (wCall gRepr (wCons (wFn 2 wf_line (wCons (wN 3) (wCons (wN 15) (wNil)))) (wNil))) (wCall gRepr (wCons (wFn 2 wf_lline (wCons (wN 3) (wCons (wN 15) (wNil)))) (wNil))))) (wN 15) [15]) (wLst (wNil)))) (wRet (wC (.bool false))) (wNext)) (wSeq (wPar [9, 10] (wMFz (wFn 1 wf_lots (wCons (wN 5) (wNil))) (wMFz (wFn 1 wf_frees (wCons (wN 3) (wNil))) (wMNil)))) (wSeq (wIf (wTrB (W2.w2 gNe (wCall gRepr (wCons (wLst (wCons (wFn 1 wf_rlots (wCons (wN 3) (wNil))) (wCons (wFn 1 wf_frees (wCons (wN 3) (wNil))) (wNil)))) (wNil))) (wCall gRepr (wCons (wLst (wCons (wN 9) (wCons (wN 10) (wNil)))) (wNil))))) (wRet (wC (.bool false))) (wNext)) (wSeq (wAsg (wFn 1 wf_allp (wCons (wN 3) (wNil))) (wGn 11)) (wSeq (wIf (wTrB (W2.w2 gNe (wCall gRepr (wCons (wB 11) (wNil))) (wCall gRepr (wCons (wCall gTuple (wCons (wLc (wItems (wN 9)) (wGn 12) (wYes) (wFn 2 wf_lprod (wCons (wN 3) (wCons (wN 12) (wNil)))) [12]) (wNil))) (wNil))))) (wRet (wC (.bool false))) (wNext)) (wSeq (wFor (wZip false (wCons (wN 9) (wCons (wN 11) (wNil)))) (wGt 2 (wGcons (wGn 12) (wGcons (wGn 13) (wGnil)))) (wSeq (wAsg (wC (.int 1)) (wGn 14)) (wSeq (wFor (wItems (wN 12)) (wGn 15) (wAsg (W2.w2 gMulI (wB 14) (W2.w2 gIxA (wB 8) (wN 15))) (wGn 14))) (wSeq (wAsg (wLc (wItems (wN 12)) (wGn 15) (wTrB (W2.w2 gEq (W2.w2 gIxA (W2.w2 gIxA (W2.w2 gIxA (wB 3) (wC (.int 1))) (wN 15)) (wC (.int 0))) (W2.w2 gIxA (W2.w2 gIxA (W2.w2 gIxA (wB 3) (wC (.int 1))) (wN 15)) (wC (.int 1))))) (wN 15) [15]) (wGn 16)) (wSeq (wIf (wOrT (wTrB (W2.w2 gNe (wFn 2 wf_worth (wCons (wN 13) (wCons (wN 7) (wNil)))) (wB 14))) (wTrB (W2.w2 gNe (wFn 1 wf_deg (wCons (wN 13) (wNil))) (wIfE (wTrB (W2.w2 gEq (wB 16) (wLst (wNil)))) (wCall gLenX (wCons (wB 12) (wNil))) (w1 gNeg (wC (.int 1))))))) (wRet (wC (.bool false))) (wNext)) (wIf (wOrT (wTrB (W2.w2 gNe (wCall gRepr (wCons (wFn 2 wf_isf (wCons (wN 3) (wCons (wN 12) (wNil)))) (wNil))) (wCall gRepr (wCons (W2.w2 (gInA false) (wN 12) (wB 10)) (wNil))))) (wTrB (W2.w2 gNe (wCall gRepr (wCons (wFn 2 wf_prod (wCons (wN 3) (wCons (wN 12) (wNil)))) (wNil))) (wCall gRepr (wCons (wB 13) (wNil)))))) (wRet (wC (.bool false))) (wNext))))))) (wSeq (wIf (wTrB (W2.w2 gEq (wFn 2 wf_manyX (wCons (wN 3) (wCons (wLstRg (wR1 (wB 5))) (wNil)))) (wC (.int 1)))) (wSeq (wAsg (wFn 1 wf_wholes (wCons (wN 3) (wNil))) (wGn 17)) (wSeq (wAsg (wCall gTuple (wCons (wLc (wItems (wN 17)) (wGn 12) (wYes) (wFn 2 wf_lprod (wCons (wN 3) (wCons (wN 12) (wNil)))) [12]) (wNil))) (wGn 18)) (wSeq (wIf (wTrB (W2.w2 gNe (wCall gRepr (wCons (wLst (wCons (wFn 1 wf_wholes (wCons (wN 3) (wNil))) (wCons (wFn 1 wf_wholep (wCons (wN 3) (wNil))) (wNil)))) (wNil))) (wCall gRepr (wCons (wLst (wCons (wN 17) (wCons (wN 18) (wNil)))) (wNil))))) (wRet (wC (.bool false))) (wNext)) (wIf (wTrB (W2.w2 gNe (wLc (wItems (wN 9)) (wGn 12) (wTrB (W2.w2 gNe (wCall gRepr (wCons (wFn 2 wf_isw (wCons (wN 3) (wCons (wN 12) (wNil)))) (wNil))) (wCall gRepr (wCons (W2.w2 (gInA false) (wN 12) (wB 17)) (wNil))))) (wN 12) [12]) (wLst (wNil)))) (wRet (wC (.bool false))) (wNext))))) (wNext)) (wIf (wTrB (W2.w2 gNe (wCall gRepr (wCons (wB 3) (wNil))) (wB 6))) (wRet (wC (.bool false))) (wNext)))))))))
def rLa_5 : WS := (wSeq (wPar [9, 10] (wMFz (wFn 1 wf_lots (wCons (wN 5) (wNil))) (wMFz (wFn 1 wf_frees (wCons (wN 3) (wNil))) (wMNil)))) (wSeq (wIf (wTrB (W2.w2 gNe (wCall gRepr (wCons (wLst (wCons (wFn 1 wf_rlots (wCons (wN 3) (wNil))) (wCons (wFn 1 wf_frees (wCons (wN 3) (wNil))) (wNil)))) (wNil))) (wCall gRepr (wCons (wLst (wCons (wN 9) (wCons (wN 10) (wNil)))) (wNil))))) (wRet (wC (.bool false))) (wNext)) (wSeq (wAsg (wFn 1 wf_allp (wCons (wN 3) (wNil))) (wGn 11)) (wSeq (wIf (wTrB (W2.w2 gNe (wCall gRepr (wCons (wB 11) (wNil))) (wCall gRepr (wCons (wCall gTuple (wCons (wLc (wItems (wN 9)) (wGn 12) (wYes) (wFn 2 wf_lprod (wCons (wN 3) (wCons (wN 12) (wNil)))) [12]) (wNil))) (wNil))))) (wRet (wC (.bool false))) (wNext)) (wSeq (wFor (wZip false (wCons (wN 9) (wCons (wN 11) (wNil)))) (wGt 2 (wGcons (wGn 12) (wGcons (wGn 13) (wGnil)))) (wSeq (wAsg (wC (.int 1)) (wGn 14)) (wSeq (wFor (wItems (wN 12)) (wGn 15) (wAsg (W2.w2 gMulI (wB 14) (W2.w2 gIxA (wB 8) (wN 15))) (wGn 14))) (wSeq (wAsg (wLc (wItems (wN 12)) (wGn 15) (wTrB (W2.w2 gEq (W2.w2 gIxA (W2.w2 gIxA (W2.w2 gIxA (wB 3) (wC (.int 1))) (wN 15)) (wC (.int 0))) (W2.w2 gIxA (W2.w2 gIxA (W2.w2 gIxA (wB 3) (wC (.int 1))) (wN 15)) (wC (.int 1))))) (wN 15) [15]) (wGn 16)) (wSeq (wIf (wOrT (wTrB (W2.w2 gNe (wFn 2 wf_worth (wCons (wN 13) (wCons (wN 7) (wNil)))) (wB 14))) (wTrB (W2.w2 gNe (wFn 1 wf_deg (wCons (wN 13) (wNil))) (wIfE (wTrB (W2.w2 gEq (wB 16) (wLst (wNil)))) (wCall gLenX (wCons (wB 12) (wNil))) (w1 gNeg (wC (.int 1))))))) (wRet (wC (.bool false))) (wNext)) (wIf (wOrT (wTrB (W2.w2 gNe (wCall gRepr (wCons (wFn 2 wf_isf (wCons (wN 3) (wCons (wN 12) (wNil)))) (wNil))) (wCall gRepr (wCons (W2.w2 (gInA false) (wN 12) (wB 10)) (wNil))))) (wTrB (W2.w2 gNe (wCall gRepr (wCons (wFn 2 wf_prod (wCons (wN 3) (wCons (wN 12) (wNil)))) (wNil))) (wCall gRepr (wCons (wB 13) (wNil)))))) (wRet (wC (.bool false))) (wNext))))))) (wSeq (wIf (wTrB (W2.w2 gEq (wFn 2 wf_manyX (wCons (wN 3) (wCons (wLstRg (wR1 (wB 5))) (wNil)))) (wC (.int 1)))) (wSeq (wAsg (wFn 1 wf_wholes (wCons (wN 3) (wNil))) (wGn 17)) (wSeq (wAsg (wCall gTuple (wCons (wLc (wItems (wN 17)) (wGn 12) (wYes) (wFn 2 wf_lprod (wCons (wN 3) (wCons (wN 12) (wNil)))) [12]) (wNil))) (wGn 18)) (wSeq (wIf (wTrB (W2.w2 gNe (wCall gRepr (wCons (wLst (wCons (wFn 1 wf_wholes (wCons (wN 3) (wNil))) (wCons (wFn 1 wf_wholep (wCons (wN 3) (wNil))) (wNil)))) (wNil))) (wCall gRepr (wCons (wLst (wCons (wN 17) (wCons (wN 18) (wNil)))) (wNil))))) (wRet (wC (.bool false))) (wNext)) (wIf (wTrB (W2.w2 gNe (wLc (wItems (wN 9)) (wGn 12) (wTrB (W2.w2 gNe (wCall gRepr (wCons (wFn 2 wf_isw (wCons (wN 3) (wCons (wN 12) (wNil)))) (wNil))) (wCall gRepr (wCons (W2.w2 (gInA false) (wN 12) (wB 17)) (wNil))))) (wN 12) [12]) (wLst (wNil)))) (wRet (wC (.bool false))) (wNext))))) (wNext)) (wIf (wTrB (W2.w2 gNe (wCall gRepr (wCons (wB 3) (wNil))) (wB 6))) (wRet (wC (.bool false))) (wNext))))))))
def rLa_6 : WS := (wSeq (wIf (wTrB (W2.w2 gNe (wCall gRepr (wCons (wLst (wCons (wFn 1 wf_rlots (wCons (wN 3) (wNil))) (wCons (wFn 1 wf_frees (wCons (wN 3) (wNil))) (wNil)))) (wNil))) (wCall gRepr (wCons (wLst (wCons (wN 9) (wCons (wN 10) (wNil)))) (wNil))))) (wRet (wC (.bool false))) (wNext)) (wSeq (wAsg (wFn 1 wf_allp (wCons (wN 3) (wNil))) (wGn 11)) (wSeq (wIf (wTrB (W2.w2 gNe (wCall gRepr (wCons (wB 11) (wNil))) (wCall gRepr (wCons (wCall gTuple (wCons (wLc (wItems (wN 9)) (wGn 12) (wYes) (wFn 2 wf_lprod (wCons (wN 3) (wCons (wN 12) (wNil)))) [12]) (wNil))) (wNil))))) (wRet (wC (.bool false))) (wNext)) (wSeq (wFor (wZip false (wCons (wN 9) (wCons (wN 11) (wNil)))) (wGt 2 (wGcons (wGn 12) (wGcons (wGn 13) (wGnil)))) (wSeq (wAsg (wC (.int 1)) (wGn 14)) (wSeq (wFor (wItems (wN 12)) (wGn 15) (wAsg (W2.w2 gMulI (wB 14) (W2.w2 gIxA (wB 8) (wN 15))) (wGn 14))) (wSeq (wAsg (wLc (wItems (wN 12)) (wGn 15) (wTrB (W2.w2 gEq (W2.w2 gIxA (W2.w2 gIxA (W2.w2 gIxA (wB 3) (wC (.int 1))) (wN 15)) (wC (.int 0))) (W2.w2 gIxA (W2.w2 gIxA (W2.w2 gIxA (wB 3) (wC (.int 1))) (wN 15)) (wC (.int 1))))) (wN 15) [15]) (wGn 16)) (wSeq (wIf (wOrT (wTrB (W2.w2 gNe (wFn 2 wf_worth (wCons (wN 13) (wCons (wN 7) (wNil)))) (wB 14))) (wTrB (W2.w2 gNe (wFn 1 wf_deg (wCons (wN 13) (wNil))) (wIfE (wTrB (W2.w2 gEq (wB 16) (wLst (wNil)))) (wCall gLenX (wCons (wB 12) (wNil))) (w1 gNeg (wC (.int 1))))))) (wRet (wC (.bool false))) (wNext)) (wIf (wOrT (wTrB (W2.w2 gNe (wCall gRepr (wCons (wFn 2 wf_isf (wCons (wN 3) (wCons (wN 12) (wNil)))) (wNil))) (wCall gRepr (wCons (W2.w2 (gInA false) (wN 12) (wB 10)) (wNil))))) (wTrB (W2.w2 gNe (wCall gRepr (wCons (wFn 2 wf_prod (wCons (wN 3) (wCons (wN 12) (wNil)))) (wNil))) (wCall gRepr (wCons (wB 13) (wNil)))))) (wRet (wC (.bool false))) (wNext))))))) (wSeq (wIf (wTrB (W2.w2 gEq (wFn 2 wf_manyX (wCons (wN 3) (wCons (wLstRg (wR1 (wB 5))) (wNil)))) (wC (.int 1)))) (wSeq (wAsg (wFn 1 wf_wholes (wCons (wN 3) (wNil))) (wGn 17)) (wSeq (wAsg (wCall gTuple (wCons (wLc (wItems (wN 17)) (wGn 12) (wYes) (wFn 2 wf_lprod (wCons (wN 3) (wCons (wN 12) (wNil)))) [12]) (wNil))) (wGn 18)) (wSeq (wIf (wTrB (W2.w2 gNe (wCall gRepr (wCons (wLst (wCons (wFn 1 wf_wholes (wCons (wN 3) (wNil))) (wCons (wFn 1 wf_wholep (wCons (wN 3) (wNil))) (wNil)))) (wNil))) (wCall gRepr (wCons (wLst (wCons (wN 17) (wCons (wN 18) (wNil)))) (wNil))))) (wRet (wC (.bool false))) (wNext)) (wIf (wTrB (W2.w2 gNe (wLc (wItems (wN 9)) (wGn 12) (wTrB (W2.w2 gNe (wCall gRepr (wCons (wFn 2 wf_isw (wCons (wN 3) (wCons (wN 12) (wNil)))) (wNil))) (wCall gRepr (wCons (W2.w2 (gInA false) (wN 12) (wB 17)) (wNil))))) (wN 12) [12]) (wLst (wNil)))) (wRet (wC (.bool false))) (wNext))))) (wNext)) (wIf (wTrB (W2.w2 gNe (wCall gRepr (wCons (wB 3) (wNil))) (wB 6))) (wRet (wC (.bool false))) (wNext)))))))
def rLa_7 : WS := (wSeq (wAsg (wFn 1 wf_allp (wCons (wN 3) (wNil))) (wGn 11)) (wSeq (wIf (wTrB (W2.w2 gNe (wCall gRepr (wCons (wB 11) (wNil))) (wCall gRepr (wCons (wCall gTuple (wCons (wLc (wItems (wN 9)) (wGn 12) (wYes) (wFn 2 wf_lprod (wCons (wN 3) (wCons (wN 12) (wNil)))) [12]) (wNil))) (wNil))))) (wRet (wC (.bool false))) (wNext)) (wSeq (wFor (wZip false (wCons (wN 9) (wCons (wN 11) (wNil)))) (wGt 2 (wGcons (wGn 12) (wGcons (wGn 13) (wGnil)))) (wSeq (wAsg (wC (.int 1)) (wGn 14)) (wSeq (wFor (wItems (wN 12)) (wGn 15) (wAsg (W2.w2 gMulI (wB 14) (W2.w2 gIxA (wB 8) (wN 15))) (wGn 14))) (wSeq (wAsg (wLc (wItems (wN 12)) (wGn 15) (wTrB (W2.w2 gEq (W2.w2 gIxA (W2.w2 gIxA (W2.w2 gIxA (wB 3) (wC (.int 1))) (wN 15)) (wC (.int 0))) (W2.w2 gIxA (W2.w2 gIxA (W2.w2 gIxA (wB 3) (wC (.int 1))) (wN 15)) (wC (.int 1))))) (wN 15) [15]) (wGn 16)) (wSeq (wIf (wOrT (wTrB (W2.w2 gNe (wFn 2 wf_worth (wCons (wN 13) (wCons (wN 7) (wNil)))) (wB 14))) (wTrB (W2.w2 gNe (wFn 1 wf_deg (wCons (wN 13) (wNil))) (wIfE (wTrB (W2.w2 gEq (wB 16) (wLst (wNil)))) (wCall gLenX (wCons (wB 12) (wNil))) (w1 gNeg (wC (.int 1))))))) (wRet (wC (.bool false))) (wNext)) (wIf (wOrT (wTrB (W2.w2 gNe (wCall gRepr (wCons (wFn 2 wf_isf (wCons (wN 3) (wCons (wN 12) (wNil)))) (wNil))) (wCall gRepr (wCons (W2.w2 (gInA false) (wN 12) (wB 10)) (wNil))))) (wTrB (W2.w2 gNe (wCall gRepr (wCons (wFn 2 wf_prod (wCons (wN 3) (wCons (wN 12) (wNil)))) (wNil))) (wCall gRepr (wCons (wB 13) (wNil)))))) (wRet (wC (.bool false))) (wNext))))))) (wSeq (wIf (wTrB (W2.w2 gEq (wFn 2 wf_manyX (wCons (wN 3) (wCons (wLstRg (wR1 (wB 5))) (wNil)))) (wC (.int 1)))) (wSeq (wAsg (wFn 1 wf_wholes (wCons (wN 3) (wNil))) (wGn 17)) (wSeq (wAsg (wCall gTuple (wCons (wLc (wItems (wN 17)) (wGn 12) (wYes) (wFn 2 wf_lprod (wCons (wN 3) (wCons (wN 12) (wNil)))) [12]) (wNil))) (wGn 18)) (wSeq (wIf (wTrB (W2.w2 gNe (wCall gRepr (wCons (wLst (wCons (wFn 1 wf_wholes (wCons (wN 3) (wNil))) (wCons (wFn 1 wf_wholep (wCons (wN 3) (wNil))) (wNil)))) (wNil))) (wCall gRepr (wCons (wLst (wCons (wN 17) (wCons (wN 18) (wNil)))) (wNil))))) (wRet (wC (.bool false))) (wNext)) (wIf (wTrB (W2.w2 gNe (wLc (wItems (wN 9)) (wGn 12) (wTrB (W2.w2 gNe (wCall gRepr (wCons (wFn 2 wf_isw (wCons (wN 3) (wCons (wN 12) (wNil)))) (wNil))) (wCall gRepr (wCons (W2.w2 (gInA false) (wN 12) (wB 17)) (wNil))))) (wN 12) [12]) (wLst (wNil)))) (wRet (wC (.bool false))) (wNext))))) (wNext)) (wIf (wTrB (W2.w2 gNe (wCall gRepr (wCons (wB 3) (wNil))) (wB 6))) (wRet (wC (.bool false))) (wNext))))))
def rLa_8 : WS := (wSeq (wIf (wTrB (W2.w2 gNe (wCall gRepr (wCons (wB 11) (wNil))) (wCall gRepr (wCons (wCall gTuple (wCons (wLc (wItems (wN 9)) (wGn 12) (wYes) (wFn 2 wf_lprod (wCons (wN 3) (wCons (wN 12) (wNil)))) [12]) (wNil))) (wNil))))) (wRet (wC (.bool false))) (wNext)) (wSeq (wFor (wZip false (wCons (wN 9) (wCons (wN 11) (wNil)))) (wGt 2 (wGcons (wGn 12) (wGcons (wGn 13) (wGnil)))) (wSeq (wAsg (wC (.int 1)) (wGn 14)) (wSeq (wFor (wItems (wN 12)) (wGn 15) (wAsg (W2.w2 gMulI (wB 14) (W2.w2 gIxA (wB 8) (wN 15))) (wGn 14))) (wSeq (wAsg (wLc (wItems (wN 12)) (wGn 15) (wTrB (W2.w2 gEq (W2.w2 gIxA (W2.w2 gIxA (W2.w2 gIxA (wB 3) (wC (.int 1))) (wN 15)) (wC (.int 0))) (W2.w2 gIxA (W2.w2 gIxA (W2.w2 gIxA (wB 3) (wC (.int 1))) (wN 15)) (wC (.int 1))))) (wN 15) [15]) (wGn 16)) (wSeq (wIf (wOrT (wTrB (W2.w2 gNe (wFn 2 wf_worth (wCons (wN 13) (wCons (wN 7) (wNil)))) (wB 14))) (wTrB (W2.w2 gNe (wFn 1 wf_deg (wCons (wN 13) (wNil))) (wIfE (wTrB (W2.w2 gEq (wB 16) (wLst (wNil)))) (wCall gLenX (wCons (wB 12) (wNil))) (w1 gNeg (wC (.int 1))))))) (wRet (wC (.bool false))) (wNext)) (wIf (wOrT (wTrB (W2.w2 gNe (wCall gRepr (wCons (wFn 2 wf_isf (wCons (wN 3) (wCons (wN 12) (wNil)))) (wNil))) (wCall gRepr (wCons (W2.w2 (gInA false) (wN 12) (wB 10)) (wNil))))) (wTrB (W2.w2 gNe (wCall gRepr (wCons (wFn 2 wf_prod (wCons (wN 3) (wCons (wN 12) (wNil)))) (wNil))) (wCall gRepr (wCons (wB 13) (wNil)))))) (wRet (wC (.bool false))) (wNext))))))) (wSeq (wIf (wTrB (W2.w2 gEq (wFn 2 wf_manyX (wCons (wN 3) (wCons (wLstRg (wR1 (wB 5))) (wNil)))) (wC (.int 1)))) (wSeq (wAsg (wFn 1 wf_wholes (wCons (wN 3) (wNil))) (wGn 17)) (wSeq (wAsg (wCall gTuple (wCons (wLc (wItems (wN 17)) (wGn 12) (wYes) (wFn 2 wf_lprod (wCons (wN 3) (wCons (wN 12) (wNil)))) [12]) (wNil))) (wGn 18)) (wSeq (wIf (wTrB (W2.w2 gNe (wCall gRepr (wCons (wLst (wCons (wFn 1 wf_wholes (wCons (wN 3) (wNil))) (wCons (wFn 1 wf_wholep (wCons (wN 3) (wNil))) (wNil)))) (wNil))) (wCall gRepr (wCons (wLst (wCons (wN 17) (wCons (wN 18) (wNil)))) (wNil))))) (wRet (wC (.bool false))) (wNext)) (wIf (wTrB (W2.w2 gNe (wLc (wItems (wN 9)) (wGn 12) (wTrB (W2.w2 gNe (wCall gRepr (wCons (wFn 2 wf_isw (wCons (wN 3) (wCons (wN 12) (wNil)))) (wNil))) (wCall gRepr (wCons (W2.w2 (gInA false) (wN 12) (wB 17)) (wNil))))) (wN 12) [12]) (wLst (wNil)))) (wRet (wC (.bool false))) (wNext))))) (wNext)) (wIf (wTrB (W2.w2 gNe (wCall gRepr (wCons (wB 3) (wNil))) (wB 6))) (wRet (wC (.bool false))) (wNext)))))
def rLa_9 : WS := (wSeq (wFor (wZip false (wCons (wN 9) (wCons (wN 11) (wNil)))) (wGt 2 (wGcons (wGn 12) (wGcons (wGn 13) (wGnil)))) (wSeq (wAsg (wC (.int 1)) (wGn 14)) (wSeq (wFor (wItems (wN 12)) (wGn 15) (wAsg (W2.w2 gMulI (wB 14) (W2.w2 gIxA (wB 8) (wN 15))) (wGn 14))) (wSeq (wAsg (wLc (wItems (wN 12)) (wGn 15) (wTrB (W2.w2 gEq (W2.w2 gIxA (W2.w2 gIxA (W2.w2 gIxA (wB 3) (wC (.int 1))) (wN 15)) (wC (.int 0))) (W2.w2 gIxA (W2.w2 gIxA (W2.w2 gIxA (wB 3) (wC (.int 1))) (wN 15)) (wC (.int 1))))) (wN 15) [15]) (wGn 16)) (wSeq (wIf (wOrT (wTrB (W2.w2 gNe (wFn 2 wf_worth (wCons (wN 13) (wCons (wN 7) (wNil)))) (wB 14))) (wTrB (W2.w2 gNe (wFn 1 wf_deg (wCons (wN 13) (wNil))) (wIfE (wTrB (W2.w2 gEq (wB 16) (wLst (wNil)))) (wCall gLenX (wCons (wB 12) (wNil))) (w1 gNeg (wC (.int 1))))))) (wRet (wC (.bool false))) (wNext)) (wIf (wOrT (wTrB (W2.w2 gNe (wCall gRepr (wCons (wFn 2 wf_isf (wCons (wN 3) (wCons (wN 12) (wNil)))) (wNil))) (wCall gRepr (wCons (W2.w2 (gInA false) (wN 12) (wB 10)) (wNil))))) (wTrB (W2.w2 gNe (wCall gRepr (wCons (wFn 2 wf_prod (wCons (wN 3) (wCons (wN 12) (wNil)))) (wNil))) (wCall gRepr (wCons (wB 13) (wNil)))))) (wRet (wC (.bool false))) (wNext))))))) (wSeq (wIf (wTrB (W2.w2 gEq (wFn 2 wf_manyX (wCons (wN 3) (wCons (wLstRg (wR1 (wB 5))) (wNil)))) (wC (.int 1)))) (wSeq (wAsg (wFn 1 wf_wholes (wCons (wN 3) (wNil))) (wGn 17)) (wSeq (wAsg (wCall gTuple (wCons (wLc (wItems (wN 17)) (wGn 12) (wYes) (wFn 2 wf_lprod (wCons (wN 3) (wCons (wN 12) (wNil)))) [12]) (wNil))) (wGn 18)) (wSeq (wIf (wTrB (W2.w2 gNe (wCall gRepr (wCons (wLst (wCons (wFn 1 wf_wholes (wCons (wN 3) (wNil))) (wCons (wFn 1 wf_wholep (wCons (wN 3) (wNil))) (wNil)))) (wNil))) (wCall gRepr (wCons (wLst (wCons (wN 17) (wCons (wN 18) (wNil)))) (wNil))))) (wRet (wC (.bool false))) (wNext)) (wIf (wTrB (W2.w2 gNe (wLc (wItems (wN 9)) (wGn 12) (wTrB (W2.w2 gNe (wCall gRepr (wCons (wFn 2 wf_isw (wCons (wN 3) (wCons (wN 12) (wNil)))) (wNil))) (wCall gRepr (wCons (W2.w2 (gInA false) (wN 12) (wB 17)) (wNil))))) (wN 12) [12]) (wLst (wNil)))) (wRet (wC (.bool false))) (wNext))))) (wNext)) (wIf (wTrB (W2.w2 gNe (wCall gRepr (wCons (wB 3) (wNil))) (wB 6))) (wRet (wC (.bool false))) (wNext))))
def rLa_10 : WS := (wSeq (wIf (wTrB (W2.w2 gEq (wFn 2 wf_manyX (wCons (wN 3) (wCons (wLstRg (wR1 (wB 5))) (wNil)))) (wC (.int 1)))) (wSeq (wAsg (wFn 1 wf_wholes (wCons (wN 3) (wNil))) (wGn 17)) (wSeq (wAsg (wCall gTuple (wCons (wLc (wItems (wN 17)) (wGn 12) (wYes) (wFn 2 wf_lprod (wCons (wN 3) (wCons (wN 12) (wNil)))) [12]) (wNil))) (wGn 18)) (wSeq (wIf (wTrB (W2.w2 gNe (wCall gRepr (wCons (wLst (wCons (wFn 1 wf_wholes (wCons (wN 3) (wNil))) (wCons (wFn 1 wf_wholep (wCons (wN 3) (wNil))) (wNil)))) (wNil))) (wCall gRepr (wCons (wLst (wCons (wN 17) (wCons (wN 18) (wNil)))) (wNil))))) (wRet (wC (.bool false))) (wNext)) (wIf (wTrB (W2.w2 gNe (wLc (wItems (wN 9)) (wGn 12) (wTrB (W2.w2 gNe (wCall gRepr (wCons (wFn 2 wf_isw (wCons (wN 3) (wCons (wN 12) (wNil)))) (wNil))) (wCall gRepr (wCons (W2.w2 (gInA false) (wN 12) (wB 17)) (wNil))))) (wN 12) [12]) (wLst (wNil)))) (wRet (wC (.bool false))) (wNext))))) (wNext)) (wIf (wTrB (W2.w2 gNe (wCall gRepr (wCons (wB 3) (wNil))) (wB 6))) (wRet (wC (.bool false))) (wNext)))
def rLa_11 : WS := (wIf (wTrB (W2.w2 gNe (wCall gRepr (wCons (wB 3) (wNil))) (wB 6))) (wRet (wC (.bool false))) (wNext))
def rLaj_0 : WS := (wSeq (wAsg (wC (.int 1)) (wGn 14)) (wSeq (wFor (wItems (wN 12)) (wGn 15) (wAsg (W2.w2 gMulI (wB 14) (W2.w2 gIxA (wB 8) (wN 15))) (wGn 14))) (wSeq (wAsg (wLc (wItems (wN 12)) (wGn 15) (wTrB (W2.w2 gEq (W2.w2 gIxA (W2.w2 gIxA (W2.w2 gIxA (wB 3) (wC (.int 1))) (wN 15)) (wC (.int 0))) (W2.w2 gIxA (W2.w2 gIxA (W2.w2 gIxA (wB 3) (wC (.int 1))) (wN 15)) (wC (.int 1))))) (wN 15) [15]) (wGn 16)) (wSeq (wIf (wOrT (wTrB (W2.w2 gNe (wFn 2 wf_worth (wCons (wN 13) (wCons (wN 7) (wNil)))) (wB 14))) (wTrB (W2.w2 gNe (wFn 1 wf_deg (wCons (wN 13) (wNil))) (wIfE (wTrB (W2.w2 gEq (wB 16) (wLst (wNil)))) (wCall gLenX (wCons (wB 12) (wNil))) (w1 gNeg (wC (.int 1))))))) (wRet (wC (.bool false))) (wNext)) (wIf (wOrT (wTrB (W2.w2 gNe (wCall gRepr (wCons (wFn 2 wf_isf (wCons (wN 3) (wCons (wN 12) (wNil)))) (wNil))) (wCall gRepr (wCons (W2.w2 (gInA false) (wN 12) (wB 10)) (wNil))))) (wTrB (W2.w2 gNe (wCall gRepr (wCons (wFn 2 wf_prod (wCons (wN 3) (wCons (wN 12) (wNil)))) (wNil))) (wCall gRepr (wCons (wB 13) (wNil)))))) (wRet (wC (.bool false))) (wNext))))))
def rLaj_1 : WS := (wSeq (wFor (wItems (wN 12)) (wGn 15) (wAsg (W2.w2 gMulI (wB 14) (W2.w2 gIxA (wB 8) (wN 15))) (wGn 14))) (wSeq (wAsg (wLc (wItems (wN 12)) (wGn 15) (wTrB (W2.w2 gEq (W2.w2 gIxA (W2.w2 gIxA (W2.w2 gIxA (wB 3) (wC (.int 1))) (wN 15)) (wC (.int 0))) (W2.w2 gIxA (W2.w2 gIxA (W2.w2 gIxA (wB 3) (wC (.int 1))) (wN 15)) (wC (.int 1))))) (wN 15) [15]) (wGn 16)) (wSeq (wIf (wOrT (wTrB (W2.w2 gNe (wFn 2 wf_worth (wCons (wN 13) (wCons (wN 7) (wNil)))) (wB 14))) (wTrB (W2.w2 gNe (wFn 1 wf_deg (wCons (wN 13) (wNil))) (wIfE (wTrB (W2.w2 gEq (wB 16) (wLst (wNil)))) (wCall gLenX (wCons (wB 12) (wNil))) (w1 gNeg (wC (.int 1))))))) (wRet (wC (.bool false))) (wNext)) (wIf (wOrT (wTrB (W2.w2 gNe (wCall gRepr (wCons (wFn 2 wf_isf (wCons (wN 3) (wCons (wN 12) (wNil)))) (wNil))) (wCall gRepr (wCons (W2.w2 (gInA false) (wN 12) (wB 10)) (wNil))))) (wTrB (W2.w2 gNe (wCall gRepr (wCons (wFn 2 wf_prod (wCons (wN 3) (wCons (wN 12) (wNil)))) (wNil))) (wCall gRepr (wCons (wB 13) (wNil)))))) (wRet (wC (.bool false))) (wNext)))))
def rLaj_2 : WS := (wSeq (wAsg (wLc (wItems (wN 12)) (wGn 15) (wTrB (W2.w2 gEq (W2.w2 gIxA (W2.w2 gIxA (W2.w2 gIxA (wB 3) (wC (.int 1))) (wN 15)) (wC (.int 0))) (W2.w2 gIxA (W2.w2 gIxA (W2.w2 gIxA (wB 3) (wC (.int 1))) (wN 15)) (wC (.int 1))))) (wN 15) [15]) (wGn 16)) (wSeq (wIf (wOrT (wTrB (W2.w2 gNe (wFn 2 wf_worth (wCons (wN 13) (wCons (wN 7) (wNil)))) (wB 14))) (wTrB (W2.w2 gNe (wFn 1 wf_deg (wCons (wN 13) (wNil))) (wIfE (wTrB (W2.w2 gEq (wB 16) (wLst (wNil)))) (wCall gLenX (wCons (wB 12) (wNil))) (w1 gNeg (wC (.int 1))))))) (wRet (wC (.bool false))) (wNext)) (wIf (wOrT (wTrB (W2.w2 gNe (wCall gRepr (wCons (wFn 2 wf_isf (wCons (wN 3) (wCons (wN 12) (wNil)))) (wNil))) (wCall gRepr (wCons (W2.w2 (gInA false) (wN 12) (wB 10)) (wNil))))) (wTrB (W2.w2 gNe (wCall gRepr (wCons (wFn 2 wf_prod (wCons (wN 3) (wCons (wN 12) (wNil)))) (wNil))) (wCall gRepr (wCons (wB 13) (wNil)))))) (wRet (wC (.bool false))) (wNext))))
def rLaj_3 : WS := (wSeq (wIf (wOrT (wTrB (W2.w2 gNe (wFn 2 wf_worth (wCons (wN 13) (wCons (wN 7) (wNil)))) (wB 14))) (wTrB (W2.w2 gNe (wFn 1 wf_deg (wCons (wN 13) (wNil))) (wIfE (wTrB (W2.w2 gEq (wB 16) (wLst (wNil)))) (wCall gLenX (wCons (wB 12) (wNil))) (w1 gNeg (wC (.int 1))))))) (wRet (wC (.bool false))) (wNext)) (wIf (wOrT (wTrB (W2.w2 gNe (wCall gRepr (wCons (wFn 2 wf_isf (wCons (wN 3) (wCons (wN 12) (wNil)))) (wNil))) (wCall gRepr (wCons (W2.w2 (gInA false) (wN 12) (wB 10)) (wNil))))) (wTrB (W2.w2 gNe (wCall gRepr (wCons (wFn 2 wf_prod (wCons (wN 3) (wCons (wN 12) (wNil)))) (wNil))) (wCall gRepr (wCons (wB 13) (wNil)))))) (wRet (wC (.bool false))) (wNext)))
def rLaj_4 : WS := (wIf (wOrT (wTrB (W2.w2 gNe (wCall gRepr (wCons (wFn 2 wf_isf (wCons (wN 3) (wCons (wN 12) (wNil)))) (wNil))) (wCall gRepr (wCons (W2.w2 (gInA false) (wN 12) (wB 10)) (wNil))))) (wTrB (W2.w2 gNe (wCall gRepr (wCons (wFn 2 wf_prod (wCons (wN 3) (wCons (wN 12) (wNil)))) (wNil))) (wCall gRepr (wCons (wB 13) (wNil)))))) (wRet (wC (.bool false))) (wNext))
def rLajb_0 : WS := (wAsg (W2.w2 gMulI (wB 14) (W2.w2 gIxA (wB 8) (wN 15))) (wGn 14))
end K09

set_option Elab.async false
set_option linter.all false
set_option maxRecDepth 100000
set_option autoImplicit false
/-! K09K: the law's places. -/
namespace K09
open PySem PySem.Spec PyProof.Rows L2 W2 PySem.W Sm Po Li

theorem two_list {k B : Nat} {d e : W2.D} (h : Fn k B d) (h' : Fn k B e) : Fn (k + 1) (2 * (B + 2) + 3) (.list [d, e]) := Fn.lst (w := 2) (ds := [d, e]) (Nat.le_refl 2) fun x hx => by
  simp only [List.mem_cons, List.not_mem_nil, or_false] at hx
  rcases hx with rfl | rfl
  · exact h
  · exact h'
theorem four_le : (4 : Nat) ≤ sizeLine := by decide
theorem at_roads {roads : List (Int × Int)} (f : Int × Int → Int) {r : Int} (h0 : 0 ≤ r) (h1 : r < roads.length) : at_ (roads.map f) r = f (road roads r) := by
  have hi : r.toNat < roads.length := by omega
  unfold at_ road
  rw [List.getD_eq_getElem?_getD, List.getElem?_map, List.getD_eq_getElem?_getD, List.getElem?_eq_getElem hi]
  rfl
def rsS (roads : List (Int × Int)) (hs : List Int) : List Int := roads.map fun p => at_ hs p.2 - at_ hs p.1
structure Sit (n : Nat) (roads : List (Int × Int)) (hs : List Int) : Prop where
  n1 : 1 ≤ n
  n5 : n ≤ 5
  m5 : roads.length ≤ 5
  good : Good n roads
  ht : HtOk (n - 1) hs
section
variable {n : Nat} {roads : List (Int × Int)} {hs : List Int} {Kc bk : En → Prop} {x2 x7 x8 x9 x10 x11 x12 x13 x14 x15 x16 x17 x18 x19 x20 x21 : W2.Slot}
theorem Sit.fo (S : Sit n roads hs) : FrOk n roads := ⟨S.n1, by have := S.n5; omega, by have := S.m5; omega, S.good⟩
theorem Sit.n32 (S : Sit n roads hs) : (lotsS roads.length).length ≤ 32 := by
  rw [frees_len]
  exact Nat.le_trans (Nat.pow_le_pow_right (by decide) S.m5) (by decide)
theorem Sit.lot5 (S : Sit n roads hs) {l : List Int} (hl : l ∈ lotsS roads.length) : l.length ≤ 5 := Nat.le_trans (lotsS_short hl) S.m5
theorem Sit.ends (S : Sit n roads hs) {l : List Int} (hl : l ∈ lotsS roads.length) : Ends (n - 1) roads l := fun r hr => by
  obtain ⟨r0, r1⟩ := (mem_lotsS hl).2 r hr
  obtain ⟨h1, h2⟩ := S.good _ (road_mem r0 r1)
  have := S.n1
  omega
theorem Sit.lotFn (S : Sit n roads hs) {l : List Int} (hl : l ∈ lotsS roads.length) : Fn 1 28 (lotD l) := by
  refine Fn.tup (k := 0) (B := 3) (w := 5) (by rw [List.length_map]; exact S.lot5 hl) fun x hx => ?_
  obtain ⟨c, hc, rfl⟩ := List.mem_map.mp hx
  obtain ⟨h1, h2⟩ := (mem_lotsS hl).2 c hc
  have := S.m5
  exact Fn.int (k := 2) (by decide) (by decide) (by omega)
theorem Sit.lotsFn (S : Sit n roads hs) (p : List Int → Bool) : Fn 2 963 (.list (((lotsS roads.length).filter p).map lotD)) := by
  refine Fn.lst (k := 1) (B := 28) (w := 32) (by rw [List.length_map]; exact Nat.le_trans (List.length_filter_le _ _) S.n32) fun x hx => ?_
  obtain ⟨l, hl, rfl⟩ := List.mem_map.mp hx
  exact S.lotFn (List.mem_filter.mp hl).1
theorem Sit.allFn (S : Sit n roads hs) : Fn 2 963 (.list ((lotsS roads.length).map lotD)) := by
  have := S.lotsFn fun _ => true
  rw [List.filter_eq_self.mpr fun _ _ => rfl] at this
  exact this
theorem Sit.prodFn (S : Sit n roads hs) {l : List Int} (hl : l ∈ lotsS roads.length) : Fn 3 3043 (rsD (prodS (n - 1) roads l)) := by
  have l5 := S.lot5 hl
  have p : 2 ^ l.length ≤ 32 := Nat.le_trans (Nat.pow_le_pow_right (by decide) l5) (by decide)
  exact (prod_pp (n - 1) roads l).fn (w := 32) (by have := S.n5; omega) (by omega) (Nat.lt_of_le_of_lt (Nat.le_trans (prod_nrm _ _ _) p) (by decide)) (Nat.le_trans (prod_len _ _ _) p)
theorem Sit.prodsFn (S : Sit n roads hs) (p : List Int → Bool) : Fn 4 97443 (.tuple (prodsS n roads ((lotsS roads.length).filter p))) := by
  refine Fn.tup (k := 3) (B := 3043) (w := 32) (by unfold prodsS; rw [List.length_map]; exact Nat.le_trans (List.length_filter_le _ _) S.n32) fun x hx => ?_
  obtain ⟨l, hl, rfl⟩ := List.mem_map.mp hx
  exact S.prodFn (List.mem_filter.mp hl).1
theorem Sit.allpFn (S : Sit n roads hs) : Fn 4 97443 (.tuple (prodsS n roads (lotsS roads.length))) := by
  have := S.prodsFn fun _ => true
  rw [List.filter_eq_self.mpr fun _ _ => rfl] at this
  exact this
theorem any_lots (L : List (List Int)) (l : List Int) : (L.map lotD).any (fun z => PyData.eqv z (lotD l)) = decide (l ∈ L) := by
  induction L with
  | nil => rfl
  | cons a L ih =>
    rw [List.map_cons, List.any_cons, ih, eqv_lot]
    by_cases h : a = l
    · subst h; simp
    · have h' : ¬ l = a := fun z => h z.symm
      simp [h, h']
theorem in_filter {L : List (List Int)} {p : List Int → Bool} {l : List Int} (hl : l ∈ L) : decide (l ∈ L.filter p) = p l := by
  cases h : p l with
  | true => exact decide_eq_true (List.mem_filter.mpr ⟨hl, h⟩)
  | false => exact decide_eq_false fun z => by rw [(List.mem_filter.mp z).2] at h; cases h
theorem Sit.shFil (S : Sit n roads hs) (p : List Int → Bool) : SeqAt.shaped (.list (((lotsS roads.length).filter p).map lotD)) = true := shaped_of (d := .list _) (layAll_map lay_lot _) (Nat.le_trans (S.lotsFn p).dep (by decide))
theorem Sit.anyFil (S : Sit n roads hs) {p : List Int → Bool} {l : List Int} (hl : l ∈ lotsS roads.length) : (((lotsS roads.length).filter p).map lotD).any (fun z => PyData.eqv z (lotD l)) = p l := by rw [any_lots, in_filter hl]
def KaOk (Kc : En → Prop) : Prop := ∀ x2 x3 x4 x5 x6 x7 x8 x9 x10 x11 x12 x13 x14 x15 x16 x17 x18 x19 x20 x21 : W2.Slot, Kc [.un, .src, x2, x3, x4, x5, x6, x7, x8, x9, x10, x11, x12, x13, x14, x15, x16, x17, x18, x19, x20, x21]
def envL (n : Nat) (roads : List (Int × Int)) (x2 x7 x8 x9 x10 x11 x12 x13 x14 x15 x16 x17 x18 x19 x20 x21 : W2.Slot) : En :=
  [.un, .src, x2, .fz (frD n roads), .fz (.int n), .fz (.int roads.length), .fz (.str (frD n roads).shown), x7, x8, x9, x10, x11, x12, x13, x14, x15, x16, x17, x18, x19, x20, x21]
def ltD (roads : List (Int × Int)) : W2.Slot := .fz (.list ((lotsS roads.length).map lotD))
def fsD (n : Nat) (roads : List (Int × Int)) : W2.Slot := .fz (.list ((frees n roads).map lotD))
def psD (n : Nat) (roads : List (Int × Int)) : W2.Slot := .fz (.tuple (prodsS n roads (lotsS roads.length)))
theorem b11 (S : Sit n roads hs) (hK : KaOk Kc) : rLa_11 { nx := Kc, rt := RT, bk := bk, ct := Kc } (envL n roads x2 x7 x8 x9 x10 x11 x12 x13 x14 x15 x16 x17 x18 x19 x20 x21) := by
  have fr : reprOk (frD n roads) = true := repr_frame (by have := S.n5; omega) (by have := S.m5; omega) fun p hp => by
    obtain ⟨h1, h2⟩ := S.good p hp
    have := S.n5
    omega
  exact ⟨fr, rfl, ifF (str_ne _) (hK _ _ _ _ _ _ _ _ _ _ _ _ _ _ _ _ _ _ _ _)⟩
theorem b10 (S : Sit n roads hs) (hK : KaOk Kc) : rLa_10 { nx := Kc, rt := RT, bk := bk, ct := Kc } (envL n roads x2 x7 x8 (ltD roads) x10 x11 x12 x13 x14 x15 x16 x17 x18 x19 x20 x21) := by
  have fo := S.fo
  have m5 := S.m5
  have n5 := S.n5
  have nx : ∀ x12 x17 x18, rLa_11 { nx := Kc, rt := RT, bk := bk, ct := Kc } (envL n roads x2 x7 x8 (ltD roads) x10 x11 x12 x13 x14 x15 x16 x17 x18 x19 x20 x21) := fun _ _ _ => b11 S hK
  refine ⟨⟨by omega, by omega, by omega, by omega, by omega⟩, ?_⟩
  rw [show ((roads.length : Int) - 0).toNat = roads.length by omega, range_D]
  refine ⟨rfl, n, roads, rngI roads.length, _, rfl, .inr rfl, fo.2.1, fo.2.2.2, (fun r hr => mem_rngI.mp hr), eqOk_of rfl rfl, ?_⟩
  show (if (((pcS n roads (rngI roads.length) : Nat) : Int) == 1) = true then _ else _)
  cases hc : ((pcS n roads (rngI roads.length) : Nat) : Int) == 1 with
  | false => exact ifF rfl (nx _ _ _)
  | true =>
    refine ifT rfl ?_
    refine ⟨rfl, n, roads, rfl, fo, ?_⟩
    show lcGo _ _ _ _ ((wholes n roads).map lotD) [] _
    refine lc_fm lotD (fun l => some (rsD (prodS (n - 1) roads l))) (wholes n roads) (fun l hl R hR => ?_) (le_line (by have := wholes_le fo; omega)) ?_
    · have hl' := (List.mem_filter.mp hl).1
      have := S.lot5 hl'
      exact ⟨rfl, n, roads, l, rfl, fo, by omega, (mem_lotsS hl').2, hR⟩
    · rw [fm_map]
      have ro : reprOk (.list [.list ((wholes n roads).map lotD), .tuple (prodsS n roads (wholes n roads))]) = true := (two_list ((S.lotsFn (isWh n roads)).mono (k' := 4) (B' := 97443) (by decide) (by decide)) (S.prodsFn (isWh n roads))).repr (by decide) (by decide)
      refine ⟨rfl, n, roads, rfl, fo, rfl, n, roads, rfl, fo, two_le, ro, two_le, ro, rfl, ifF (str_ne _) ?_⟩
      show lcGo _ _ _ _ ((lotsS roads.length).map lotD) [] _
      refine lc_fm lotD (fun _ => none) (lotsS roads.length) (fun l hl R hR => ?_) (le_line (by have := S.n32; omega)) ?_
      · refine ⟨rfl, n, roads, l, rfl, fo, repr_bool _, ?_⟩
        refine ⟨shaped_lot l, S.shFil (isWh n roads), ?_⟩
        show reprOk (.bool (((wholes n roads).map lotD).any fun z => PyData.eqv z (lotD l))) = true ∧ _
        have ea : ((wholes n roads).map lotD).any (fun z => PyData.eqv z (lotD l)) = isWh n roads l := S.anyFil hl
        rw [ea]
        exact ⟨repr_bool _, rfl, ifF (str_ne _) hR⟩
      · have en : List.filterMap (fun _ : List Int => (none : Option W2.D)) (lotsS roads.length) = [] := by
          induction lotsS roads.length with
          | nil => rfl
          | cons a L ih => rw [List.filterMap_cons]; exact ih
        rw [en]
        exact ⟨Nat.zero_le _, rfl, ifF rfl (nx _ _ _)⟩
end
end K09

set_option Elab.async false
set_option linter.all false
set_option maxRecDepth 100000
set_option autoImplicit false
/-! K09L: the law's loop over lots, its places. -/
namespace K09
open PySem PySem.Spec PyProof.Rows L2 W2 PySem.W Sm Po Li

section
variable {n : Nat} {roads : List (Int × Int)} {hs : List Int} {Kc bk : En → Prop} {x2 x3 x4 x5 x6 x7 x8 x9 x10 x11 x12 x13 x14 x15 x16 x17 x18 x19 x20 x21 : W2.Slot}
def rsD' (roads : List (Int × Int)) (hs : List Int) : W2.Slot := .fz (.list ((rsS roads hs).map .int))
def pdD (n : Nat) (roads : List (Int × Int)) (l : List Int) : W2.D := .tuple [lotD l, rsD (prodS (n - 1) roads l)]
theorem zip_prods (n : Nat) (roads : List (Int × Int)) : ∀ ls : List (List Int), (zipD (ls.map lotD) (prodsS n roads ls)).map PyData.tuple = ls.map (pdD n roads)
  | [] => rfl
  | l :: ls => by
    have ih := zip_prods n roads ls
    show PyData.tuple [lotD l, rsD (prodS (n - 1) roads l)] :: (zipD (ls.map lotD) (prodsS n roads ls)).map PyData.tuple = _
    rw [ih]
    rfl
def KjOk (n : Nat) (roads : List (Int × Int)) (hs : List Int) (x2 x17 x18 x19 x20 x21 : W2.Slot) (Kc : En → Prop) : Prop := ∀ x12 x13 x14 x15 x16, Kc (envL n roads x2 (.fz (lotD hs)) (rsD' roads hs) (ltD roads) (fsD n roads) (psD n roads) x12 x13 x14 x15 x16 x17 x18 x19 x20 x21)
theorem c4 (S : Sit n roads hs) {l : List Int} (hl : l ∈ lotsS roads.length) (hK : KjOk n roads hs x2 x17 x18 x19 x20 x21 Kc) : rLaj_4 { nx := Kc, rt := RT, bk := bk, ct := Kc } (envL n roads x2 (.fz (lotD hs)) (rsD' roads hs) (ltD roads) (fsD n roads) (psD n roads) (.fz (lotD l)) (.fz (rsD (prodS (n - 1) roads l))) x14 x15 x16 x17 x18 x19 x20 x21) := by
  have fo := S.fo
  have l5 := S.lot5 hl
  have rp : reprOk (rsD (prodS (n - 1) roads l)) = true := (S.prodFn hl).repr (by decide) (by decide)
  have ea : ((frees n roads).map lotD).any (fun z => PyData.eqv z (lotD l)) = isFr n roads l := S.anyFil hl
  refine ⟨rfl, n, roads, l, rfl, fo, (mem_lotsS hl).2, repr_bool _, ?_⟩
  refine ⟨shaped_lot l, S.shFil (isFr n roads), ?_⟩
  show reprOk (.bool (((frees n roads).map lotD).any fun z => PyData.eqv z (lotD l))) = true ∧ _
  rw [ea]
  refine ⟨repr_bool _, rfl, ifF (str_ne _) ?_⟩
  exact ⟨rfl, n, roads, l, rfl, S.n1, fo.2.1, by omega, (mem_lotsS hl).2, rp, rp, rfl, ifF (str_ne _) (hK _ _ _ _ _)⟩
theorem c3 (S : Sit n roads hs) {l : List Int} (hl : l ∈ lotsS roads.length) (hK : KjOk n roads hs x2 x17 x18 x19 x20 x21 Kc) : rLaj_3 { nx := Kc, rt := RT, bk := bk, ct := Kc } (envL n roads x2 (.fz (lotD hs)) (rsD' roads hs) (ltD roads) (fsD n roads) (psD n roads) (.fz (lotD l)) (.fz (rsD (prodS (n - 1) roads l))) (.fz (.int (l.foldl (fun w r => w * (at_ hs (road roads r).2 - at_ hs (road roads r).1)) 1))) x15 (.fz (.list ((loopsS roads l).map .int))) x17 x18 x19 x20 x21) := by
  have nx := c4 (x2 := x2) (x14 := .fz (.int (l.foldl (fun w r => w * (at_ hs (road roads r).2 - at_ hs (road roads r).1)) 1))) (x15 := x15) (x16 := .fz (.list ((loopsS roads l).map .int))) (x17 := x17) (x18 := x18) (x19 := x19) (x20 := x20) (x21 := x21) (bk := bk) S hl hK
  have l5 := S.lot5 hl
  have p : 2 ^ l.length ≤ 32 := Nat.le_trans (Nat.pow_le_pow_right (by decide) l5) (by decide)
  have e1 := worth_prod S.ht (S.ends hl)
  have e2 := prod_deg (S.ends hl)
  refine ⟨rfl, n - 1, l.length, prodS (n - 1) roads l, hs, rfl, prod_pp _ _ _, by omega, Nat.lt_of_le_of_lt (Nat.le_trans (prod_nrm _ _ _) p) (by decide), S.ht, eqOk_of rfl rfl, ifF (int_ne e1) ?_⟩
  refine ⟨rfl, prodS (n - 1) roads l, rfl, Nat.le_trans (Nat.le_trans (prod_len _ _ _) p) (by decide), ?_⟩
  refine ⟨Nat.zero_le _, eqOk_nil _, ?_⟩
  show (if PyData.eqv (.list _) (.list []) = true then _ else _)
  rw [eqv_nil]
  cases hc : loopsS roads l with
  | nil =>
    rw [hc] at nx
    rw [if_pos hc] at e2
    refine ifT rfl ?_
    refine ⟨eqOk_of rfl rfl, ?_⟩
    show (if (!PyData.eqv (.int (degS (prodS (n - 1) roads l))) (.int ((l.map PyData.int).length : Nat))) = true then _ else _)
    rw [List.length_map]
    exact ifF (int_ne e2) nx
  | cons a L =>
    rw [hc] at nx
    rw [if_neg (by rw [hc]; exact fun z => nomatch z)] at e2
    refine ifF rfl ?_
    exact ⟨eqOk_of rfl rfl, ifF (int_ne e2) nx⟩
theorem c2 (S : Sit n roads hs) {l : List Int} (hl : l ∈ lotsS roads.length) (hK : KjOk n roads hs x2 x17 x18 x19 x20 x21 Kc) : rLaj_2 { nx := Kc, rt := RT, bk := bk, ct := Kc } (envL n roads x2 (.fz (lotD hs)) (rsD' roads hs) (ltD roads) (fsD n roads) (psD n roads) (.fz (lotD l)) (.fz (rsD (prodS (n - 1) roads l))) (.fz (.int (l.foldl (fun w r => w * (at_ hs (road roads r).2 - at_ hs (road roads r).1)) 1))) x15 x16 x17 x18 x19 x20 x21) := by
  have nx : rLaj_3 { nx := Kc, rt := RT, bk := bk, ct := Kc } (envL n roads x2 (.fz (lotD hs)) (rsD' roads hs) (ltD roads) (fsD n roads) (psD n roads) (.fz (lotD l)) (.fz (rsD (prodS (n - 1) roads l))) (.fz (.int (l.foldl (fun w r => w * (at_ hs (road roads r).2 - at_ hs (road roads r).1)) 1))) x15 (.fz (.list ((loopsS roads l).map .int))) x17 x18 x19 x20 x21) := c3 S hl hK
  show lcGo _ _ _ _ (l.map PyData.int) [] _
  refine lc_fm PyData.int (fun r => if ((road roads r).1 == (road roads r).2) = true then some (.int r) else none) l (fun r hr R hR => ?_) (le_line (by have := S.lot5 hl; omega)) ?_
  · obtain ⟨r0, r1⟩ := (mem_lotsS hl).2 r hr
    exact ⟨_, rfl, _, road_at r0 r1, _, rfl, _, rfl, _, road_at r0 r1, _, rfl, eqOk_of rfl rfl, optR hR⟩
  · rw [fm_filter PyData.int fun r => (road roads r).1 == (road roads r).2]
    exact nx
theorem ht_small {m : Nat} (H : HtOk m hs) (c : Int) : (at_ hs c).natAbs ≤ 100 := by
  unfold at_
  rw [List.getD_eq_getElem?_getD]
  cases h : hs[c.toNat]? with
  | none => decide
  | some x => exact H.small x (List.mem_of_getElem? h)
theorem c1 (S : Sit n roads hs) {l : List Int} (hl : l ∈ lotsS roads.length) (hK : KjOk n roads hs x2 x17 x18 x19 x20 x21 Kc) : rLaj_1 { nx := Kc, rt := RT, bk := bk, ct := Kc } (envL n roads x2 (.fz (lotD hs)) (rsD' roads hs) (ltD roads) (fsD n roads) (psD n roads) (.fz (lotD l)) (.fz (rsD (prodS (n - 1) roads l))) (.fz (.int 1)) x15 x16 x17 x18 x19 x20 x21) := by
  show forGo _ _ _ (l.map PyData.int) _
  refine for_foldW PyData.int (fun (w : Nat × Int) η => w.2.natAbs ≤ 200 ^ w.1 ∧ ∃ x15, η = envL n roads x2 (.fz (lotD hs)) (rsD' roads hs) (ltD roads) (fsD n roads) (psD n roads) (.fz (lotD l)) (.fz (rsD (prodS (n - 1) roads l))) (.fz (.int w.2)) x15 x16 x17 x18 x19 x20 x21) (fun w r => (w.1 + 1, w.2 * (at_ hs (road roads r).2 - at_ hs (road roads r).1))) (fun w => w.1) (fun _ => 1) (fun w r => Nat.le_refl _) (B := 5) l (0, 1) _ ⟨Nat.le_refl _, _, rfl⟩ (by rw [sum_one]; have := S.lot5 hl; show 0 + _ ≤ 5; omega) (fun r hr w η hη hB Kc2 hK2 => ?_) (fun η hη => ?_)
  · obtain ⟨hw, x15, rfl⟩ := hη
    have hB' : w.1 + 1 ≤ 5 := hB
    obtain ⟨r0, r1⟩ := (mem_lotsS hl).2 r hr
    have e := at_roads (roads := roads) (fun p => at_ hs p.2 - at_ hs p.1) r0 r1
    refine ⟨_, at_row (r := rsS roads hs) r0 (by unfold rsS; rw [List.length_map]; exact r1), ?_⟩
    have e' : at_ (rsS roads hs) r = at_ hs (road roads r).2 - at_ hs (road roads r).1 := e
    rw [e']
    have h1 := ht_small S.ht (road roads r).1
    have h2 := ht_small S.ht (road roads r).2
    have h3 : (at_ hs (road roads r).2 - at_ hs (road roads r).1).natAbs ≤ 200 := by omega
    refine ⟨?_, hK2 _ ⟨?_, _, rfl⟩⟩
    · have p5 : w.2.natAbs ≤ 200 ^ 5 := Nat.le_trans hw (Nat.pow_le_pow_right (by decide) (show w.1 ≤ 5 by omega))
      exact small_mul (small_of p5 (by decide)) (small_of h3 (by decide))
    · show (w.2 * _).natAbs ≤ 200 ^ (w.1 + 1)
      rw [Int.natAbs_mul, Nat.pow_succ]
      exact Nat.mul_le_mul hw h3
  · obtain ⟨_, x15, rfl⟩ := hη
    have e : ∀ (l : List Int) (w : Nat × Int), (l.foldl (fun w r => (w.1 + 1, w.2 * (at_ hs (road roads r).2 - at_ hs (road roads r).1))) w).2 = l.foldl (fun w r => w * (at_ hs (road roads r).2 - at_ hs (road roads r).1)) w.2 := by
      intro l
      induction l with
      | nil => intro w; rfl
      | cons x l ih => intro w; rw [List.foldl_cons, List.foldl_cons, ih]
    rw [e]
    exact c2 S hl hK
theorem b9 (S : Sit n roads hs) (hK : KaOk Kc) : rLa_9 { nx := Kc, rt := RT, bk := bk, ct := Kc } (envL n roads x2 (.fz (lotD hs)) (rsD' roads hs) (ltD roads) (fsD n roads) (psD n roads) x12 x13 x14 x15 x16 x17 x18 x19 x20 x21) := by
  refine ⟨(fun z => nomatch z), ?_⟩
  show forGo _ _ _ ((zipD ((lotsS roads.length).map lotD) (prodsS n roads (lotsS roads.length))).map PyData.tuple) _
  rw [zip_prods]
  refine for_each (fun η => ∃ x12 x13 x14 x15 x16, η = envL n roads x2 (.fz (lotD hs)) (rsD' roads hs) (ltD roads) (fsD n roads) (psD n roads) x12 x13 x14 x15 x16 x17 x18 x19 x20 x21) _ _ ⟨_, _, _, _, _, rfl⟩ (fun v hv η hη Kc2 hK2 => ?_) (fun η hη => ?_)
  · obtain ⟨x12, x13, x14, x15, x16, rfl⟩ := hη
    obtain ⟨l, hl, rfl⟩ := List.mem_map.mp hv
    exact ⟨rfl, c1 S hl fun _ _ _ _ _ => hK2 _ ⟨_, _, _, _, _, rfl⟩⟩
  · obtain ⟨x12, x13, x14, x15, x16, rfl⟩ := hη
    exact b10 S hK
theorem b8 (S : Sit n roads hs) (hK : KaOk Kc) : rLa_8 { nx := Kc, rt := RT, bk := bk, ct := Kc } (envL n roads x2 (.fz (lotD hs)) (rsD' roads hs) (ltD roads) (fsD n roads) (psD n roads) x12 x13 x14 x15 x16 x17 x18 x19 x20 x21) := by
  have nx : rLa_9 { nx := Kc, rt := RT, bk := bk, ct := Kc } (envL n roads x2 (.fz (lotD hs)) (rsD' roads hs) (ltD roads) (fsD n roads) (psD n roads) x12 x13 x14 x15 x16 x17 x18 x19 x20 x21) := b9 S hK
  have fo := S.fo
  have ro : reprOk (.tuple (prodsS n roads (lotsS roads.length))) = true := S.allpFn.repr (by decide) (by decide)
  refine ⟨ro, ?_⟩
  show lcGo _ _ _ _ ((lotsS roads.length).map lotD) [] _
  refine lc_fm lotD (fun l => some (rsD (prodS (n - 1) roads l))) (lotsS roads.length) (fun l hl R hR => ?_) (le_line (by have := S.n32; omega)) ?_
  · have := S.lot5 hl
    exact ⟨rfl, n, roads, l, rfl, fo, by omega, (mem_lotsS hl).2, hR⟩
  · rw [fm_map]
    exact ⟨ro, rfl, ifF (str_ne _) nx⟩
theorem b5 (S : Sit n roads hs) (hK : KaOk Kc) : rLa_5 { nx := Kc, rt := RT, bk := bk, ct := Kc } (envL n roads x2 (.fz (lotD hs)) (rsD' roads hs) x9 x10 x11 x12 x13 x14 x15 x16 x17 x18 x19 x20 x21) := by
  have fo := S.fo
  have nx : rLa_8 { nx := Kc, rt := RT, bk := bk, ct := Kc } (envL n roads x2 (.fz (lotD hs)) (rsD' roads hs) (ltD roads) (fsD n roads) (psD n roads) x12 x13 x14 x15 x16 x17 x18 x19 x20 x21) := b8 S hK
  have ro : reprOk (.list [.list ((lotsS roads.length).map lotD), .list ((frees n roads).map lotD)]) = true := (two_list S.allFn (S.lotsFn (isFr n roads))).repr (by decide) (by decide)
  refine ⟨rfl, roads.length, rfl, fo.2.2.1, rfl, n, roads, rfl, fo, rfl, ?_⟩
  refine ⟨rfl, n, roads, rfl, fo, rfl, n, roads, rfl, fo, two_le, ro, two_le, ro, rfl, ifF (str_ne _) ?_⟩
  exact ⟨rfl, n, roads, rfl, fo, nx⟩
theorem b4 (S : Sit n roads hs) (hK : KaOk Kc) : rLa_4 { nx := Kc, rt := RT, bk := bk, ct := Kc } (envL n roads x2 (.fz (lotD hs)) (rsD' roads hs) x9 x10 x11 x12 x13 x14 x15 x16 x17 x18 x19 x20 x21) := by
  have fo := S.fo
  have nx : ∀ x15, rLa_5 { nx := Kc, rt := RT, bk := bk, ct := Kc } (envL n roads x2 (.fz (lotD hs)) (rsD' roads hs) x9 x10 x11 x12 x13 x14 x15 x16 x17 x18 x19 x20 x21) := fun _ => b5 S hK
  have m5 := S.m5
  refine ⟨⟨by omega, by omega⟩, ?_⟩
  rw [Int.toNat_natCast, range_D]
  refine lc_fm PyData.int (fun _ => none) (rngI roads.length) (fun r hr R hR => ?_) (le_line (by rw [rngI_len]; omega)) ?_
  · obtain ⟨r0, r1⟩ := mem_rngI.mp hr
    have ro : reprOk (rsD (lineS (n - 1) (road roads r))) = true := ((line_pp (n - 1) (road roads r)).fn (w := 2) (by have := S.n5; omega) (by decide) (Nat.lt_of_le_of_lt (line_nrm _ _) (by decide)) (Nat.le_trans (line_nf _ _).len (line_nrm _ _))).repr (by decide) (by decide)
    exact ⟨rfl, n, roads, r, rfl, S.n1, fo.2.1, r0, r1, ro, rfl, n, roads, r, rfl, fo, r0, r1, ro, rfl, ifF (str_ne _) hR⟩
  · have en : List.filterMap (fun _ : Int => (none : Option W2.D)) (rngI roads.length) = [] := by
      induction rngI roads.length with
      | nil => rfl
      | cons a L ih => rw [List.filterMap_cons]; exact ih
    rw [en]
    exact ⟨Nat.zero_le _, rfl, ifF rfl (nx _)⟩
theorem b3 (S : Sit n roads hs) (hK : KaOk Kc) : rLa_3 { nx := Kc, rt := RT, bk := bk, ct := Kc } (envL n roads x2 (.fz (lotD hs)) x8 x9 x10 x11 x12 x13 x14 x15 x16 x17 x18 x19 x20 x21) := by
  have nx : rLa_4 { nx := Kc, rt := RT, bk := bk, ct := Kc } (envL n roads x2 (.fz (lotD hs)) (rsD' roads hs) x9 x10 x11 x12 x13 x14 x15 x16 x17 x18 x19 x20 x21) := b4 S hK
  have m5 := S.m5
  have len := S.ht.len
  have n1 := S.n1
  refine ⟨_, rfl, ?_⟩
  show lcGo _ _ _ _ (roads.map rdD) [] _
  refine lc_fm rdD (fun p => some (.int (at_ hs p.2 - at_ hs p.1))) roads (fun p hp R hR => ?_) (le_line (by omega)) ?_
  · obtain ⟨h1, h2⟩ := S.good p hp
    exact ⟨rfl, _, at_row (r := hs) h2.1 (by omega), _, at_row (r := hs) h1.1 (by omega), hR⟩
  · rw [fm_map]
    have e : roads.map (fun p => PyData.int (at_ hs p.2 - at_ hs p.1)) = (rsS roads hs).map .int := by unfold rsS; rw [List.map_map]; rfl
    rw [e]
    exact nx
theorem draws {ys : List W2.D} : (∀ y ∈ ys, ∃ x : Int, y = .int x ∧ x.natAbs ≤ 100) → ∃ hs : List Int, ys = hs.map .int ∧ ∀ x ∈ hs, x.natAbs ≤ 100 := by
  induction ys with
  | nil => intro _; exact ⟨[], rfl, fun _ h => nomatch h⟩
  | cons y ys ih =>
    intro hy
    obtain ⟨x, rfl, hx⟩ := hy y List.mem_cons_self
    obtain ⟨hs, rfl, hh⟩ := ih fun z hz => hy z (List.mem_cons_of_mem _ hz)
    refine ⟨x :: hs, rfl, fun z hz => ?_⟩
    rcases List.mem_cons.mp hz with e | e
    · subst e; exact hx
    · exact hh z e
theorem b2 (n1 : 1 ≤ n) (n5 : n ≤ 5) (m5 : roads.length ≤ 5) (hg : Good n roads) (hK : KaOk Kc) : rLa_2 { nx := Kc, rt := RT, bk := bk, ct := Kc } (envL n roads x2 x7 x8 x9 x10 x11 x12 x13 x14 x15 x16 x17 x18 x19 x20 x21) := by
  have nx : ∀ hs, HtOk (n - 1) hs → rLa_3 { nx := Kc, rt := RT, bk := bk, ct := Kc } (envL n roads x2 (.fz (lotD hs)) x8 x9 x10 x11 x12 x13 x14 x15 x16 x17 x18 x19 x20 x21) := fun hs H => b3 ⟨n1, n5, m5, hg, H⟩ hK
  refine ⟨⟨by omega, by omega⟩, ?_⟩
  rw [Int.toNat_natCast, range_D]
  refine lc_draw _ (fun y => ∃ x : Int, y = .int x ∧ x.natAbs ≤ 100) (rngI n) (fun i hi R hR => ?_) (le_line (by rw [rngI_len]; omega)) fun ys hyl hy => ?_
  · exact ⟨rfl, (show (21 : Int) < 1073741824 by decide), fun r h0 h1 => hR _ ⟨r - 10, rfl, by omega⟩⟩
  · obtain ⟨hs, rfl, hh⟩ := draws hy
    rw [List.length_map, rngI_len] at hyl
    exact nx hs ⟨by omega, by omega, hh⟩
theorem b1 (n1 : 1 ≤ n) (n5 : n ≤ 5) (m5 : roads.length ≤ 5) (hg : Good n roads) (hK : KaOk Kc) : rLa_1 { nx := Kc, rt := RT, bk := bk, ct := Kc } [.un, .src, x2, .fz (frD n roads), x4, x5, x6, x7, x8, x9, x10, x11, x12, x13, x14, x15, x16, x17, x18, x19, x20, x21] := by
  have fr : reprOk (frD n roads) = true := repr_frame (by omega) (by omega) fun p hp => by
    obtain ⟨h1, h2⟩ := hg p hp
    omega
  have go : ∀ m : Nat, m = roads.length → rLa_2 { nx := Kc, rt := RT, bk := bk, ct := Kc } [.un, .src, x2, .fz (frD n roads), .fz (.int n), .fz (.int m), .fz (.str (frD n roads).shown), x7, x8, x9, x10, x11, x12, x13, x14, x15, x16, x17, x18, x19, x20, x21] := fun m hm => by
    subst hm
    exact b2 n1 n5 m5 hg hK
  exact ⟨_, rfl, _, rfl, fr, rfl, go _ (List.length_map _)⟩
theorem b0 {lap : Nat} (hl : lap < 4) (hK : KaOk Kc) : rLa_0 { nx := Kc, rt := RT, bk := bk, ct := Kc } [.un, .src, .fz (.int lap), x3, x4, x5, x6, x7, x8, x9, x10, x11, x12, x13, x14, x15, x16, x17, x18, x19, x20, x21] := by
  match lap, hl with
  | 0, _ => exact ⟨four_le, _, rfl, four_le, _, rfl, rfl, 2, 3, rfl, by decide, by decide, by decide, by decide, fun n roads h1 h2 h3 hg => b1 h1 (by omega) (by omega) hg hK⟩
  | 1, _ => exact ⟨four_le, _, rfl, four_le, _, rfl, rfl, 3, 4, rfl, by decide, by decide, by decide, by decide, fun n roads h1 h2 h3 hg => b1 h1 (by omega) (by omega) hg hK⟩
  | 2, _ => exact ⟨four_le, _, rfl, four_le, _, rfl, rfl, 4, 5, rfl, by decide, by decide, by decide, by decide, fun n roads h1 h2 h3 hg => b1 h1 (by omega) (by omega) hg hK⟩
  | 3, _ => exact ⟨four_le, _, rfl, four_le, _, rfl, rfl, 5, 5, rfl, by decide, by decide, by decide, by decide, fun n roads h1 h2 h3 hg => b1 h1 (by omega) (by omega) hg hK⟩
end
theorem last_prod : prodS 2 [(0, 1), (1, 2), (2, 0)] [0, 1] = [([1, 1], 1), ([2, 0], -1)] := by
  have nf : Nf [([1, 1], (1 : Int)), ([2, 0], -1)] := by
    have k0 : Keys [([1, 1], (1 : Int)), ([2, 0], -1)] := by unfold Keys; decide
    refine ⟨k0, ?_⟩
    have hn : nz [([1, 1], (1 : Int)), ([2, 0], -1)] = [([1, 1], (1 : Int)), ([2, 0], -1)] := by decide
    unfold W2.told
    rw [hn]
    refine (List.Perm.eq_of_pairwise (le := fun a b => leP a b = true) (fun a b _ _ => leP_anti) ?_ (sort_pairwise leP_total _) (List.mergeSort_perm _ leP).symm).symm
    refine List.pairwise_cons.mpr ⟨fun q hq => ?_, List.pairwise_singleton _ _⟩
    rw [List.mem_singleton] at hq
    subst hq
    exact leP_key (by show leL [1, 1] [2, 0] = true; rw [leL_is]; decide) (by decide)
  refine Nf.ext (prod_pp _ _ _).nf nf fun f => ?_
  show ev f (pmul (pmul (oneS 2) (lineS 2 (0, 1))) (lineS 2 (1, 2))) = _
  unfold pmul
  rw [ev_mul, ev_mul]
  simp [oneS, ev_cons, ev_nil, line_ev, fo, pop, padd, unitP, zeroP, List.range_succ]
  omega
theorem hw_law : wb_law wf_lframe wf_line wf_lline wf_lots wf_frees wf_rlots wf_frees wf_allp wf_lprod wf_worth wf_deg wf_isf wf_prod wf_manyX wf_wholes wf_wholes wf_wholep wf_isw { nx := fun _ => False, rt := fun d => d = .bool true } (lawE ["script", "source", "lap", "frame", "n", "m", "kept", "heights", "rises", "lots", "free", "products", "lot", "product", "worth", "r", "loops", "whole", "due", "c", "a", "b"]) := by
  refine ⟨⟨by omega, by omega⟩, ?_⟩
  show forGo _ _ _ (rangeD 0 4) _
  rw [rangeD0]
  refine for_each (fun η => ∃ x2 x3 x4 x5 x6 x7 x8 x9 x10 x11 x12 x13 x14 x15 x16 x17 x18 x19 x20 x21 : W2.Slot, η = [.un, .src, x2, x3, x4, x5, x6, x7, x8, x9, x10, x11, x12, x13, x14, x15, x16, x17, x18, x19, x20, x21]) _ _ ⟨_, _, _, _, _, _, _, _, _, _, _, _, _, _, _, _, _, _, _, _, rfl⟩ (fun v hv η hI Kc hK => ?_) (fun η hI => ?_)
  · obtain ⟨x2, x3, x4, x5, x6, x7, x8, x9, x10, x11, x12, x13, x14, x15, x16, x17, x18, x19, x20, x21, rfl⟩ := hI
    obtain ⟨lap, hlap, rfl⟩ := List.mem_map.mp hv
    exact b0 (List.mem_range.mp hlap) (fun _ _ _ _ _ _ _ _ _ _ _ _ _ _ _ _ _ _ _ _ => hK _ ⟨_, _, _, _, _, _, _, _, _, _, _, _, _, _, _, _, _, _, _, _, rfl⟩)
  · obtain ⟨x2, x3, x4, x5, x6, x7, x8, x9, x10, x11, x12, x13, x14, x15, x16, x17, x18, x19, x20, x21, rfl⟩ := hI
    refine ⟨two_le, two_le, two_le, three_le, two_le, two_le, rfl, 3, [(0, 1), (1, 2), (2, 0)], [0, 1], rfl, by decide, by decide, by decide, (fun r hr => ?_), two_le, two_le, two_le, two_le, two_le, rs_ok _ [([1, 1], 1), ([2, 0], -1)], ?_⟩
    · simp only [List.mem_cons, List.not_mem_nil, or_false] at hr
      rcases hr with rfl | rfl <;> decide
    · show PyData.bool (PyData.eqv (rsD (prodS 2 [(0, 1), (1, 2), (2, 0)] [0, 1])) (rsD [([1, 1], 1), ([2, 0], -1)])) = .bool true
      rw [last_prod]
      rfl
end K09

set_option Elab.async false
set_option linter.all false
set_option maxRecDepth 100000
namespace K09
open PySem PySem.Spec PyProof.Rows L2 W2
theorem top {P : Program} {w : World} {K : PySem.W.Frag} {h : Heap} {mg : Str → Option Value} {fa : Addr} (X : K.In h) (G : h.Ns mainGlobals mg) (hfa : mg "law" = some (.ref fa)) (Z : Fs K mg) :
    ∃ fd : FuncData, (∀ (s : Shared) (u : Value), BindsTo s fd ⟨[u], []⟩ [("script", u)]) ∧ ∀ base : Heap, K.In base → base.Ns mainGlobals mg → FnG P w K mg base 7 fa fd ["script"] (spLawG K) := by
  have e : Z.f_law.a = fa := by
    have q := Z.f_law.m
    rw [hfa] at q
    cases q
    rfl
  subst e
  refine ⟨Z.f_law.d, fun s u => Z.f_law.bt s [u] rfl, fun base _ _ => ?_⟩
  have G_degree_of : FnG P w K mg base 1 Z.f_degree_of.a Z.f_degree_of.d ["poly"] (spW K 1 Po.wf_deg) := wk_degree_of Z Po.hw_deg
  have G_worth_of : FnG P w K mg base 1 Z.f_worth_of.a Z.f_worth_of.d ["poly", "heights"] (spW K 2 Po.wf_worth) := wk_worth_of Z Po.hw_worth
  have G_told_polynomial : FnG P w K mg base 1 Z.f_told_polynomial.a Z.f_told_polynomial.d ["numbers"] (spW K 1 Po.wf_told) := wk_told_polynomial Z Po.hw_told
  have G_unit_powers : FnG P w K mg base 1 Z.f_unit_powers.a Z.f_unit_powers.d ["n", "crossing"] (spW K 2 Li.wf_unit) := wk_unit_powers Z Li.hw_unit
  have G_line_of : FnG P w K mg base 2 Z.f_line_of.a Z.f_line_of.d ["frame", "road"] (spW K 2 Li.wf_line) := wk_line_of Z G_unit_powers G_told_polynomial Li.hw_line
  have G_added_powers : FnG P w K mg base 1 Z.f_added_powers.a Z.f_added_powers.d ["one", "other"] (spW K 2 Po.wf_addp) := wk_added_powers Z Po.hw_addp
  have G_polynomial_product : FnG P w K mg base 2 Z.f_polynomial_product.a Z.f_polynomial_product.d ["one", "other"] (spW K 2 Po.wf_mul) := wk_polynomial_product Z G_added_powers G_told_polynomial Po.hw_mul
  have G_product_of : FnG P w K mg base 3 Z.f_product_of.a Z.f_product_of.d ["frame", "lot"] (spW K 2 Li.wf_prod) := wk_product_of Z G_polynomial_product G_line_of Li.hw_prod
  have G_all_roads : FnG P w K mg base 1 Z.f_all_roads.a Z.f_all_roads.d ["frame"] (spW K 1 Li.wf_allr) := wk_all_roads Z Li.hw_allr
  have G_road_lots : FnG P w K mg base 2 Z.f_road_lots.a Z.f_road_lots.d ["frame"] (spW K 1 Li.wf_rlots) := wk_road_lots Z G_all_roads Li.hw_rlots
  have G_heads_by : FnG P w K mg base 1 Z.f_heads_by.a Z.f_heads_by.d ["frame", "lot"] (spW K 2 Li.wf_heads) := wk_heads_by Z Li.hw_heads
  have G_pieces_by : FnG P w K mg base 2 Z.f_pieces_by.a Z.f_pieces_by.d ["frame", "lot"] (spW K 2 Li.wf_piecesby) := wk_pieces_by Z G_heads_by Li.hw_piecesby
  have G_piece_count : FnG P w K mg base 3 Z.f_piece_count.a Z.f_piece_count.d ["frame", "lot"] (spW K 2 Li.wf_pcount) := wk_piece_count Z G_pieces_by Li.hw_pcount
  have G_is_whole_lot : FnG P w K mg base 4 Z.f_is_whole_lot.a Z.f_is_whole_lot.d ["frame", "lot"] (spW K 2 Li.wf_isw) := wk_is_whole_lot Z G_piece_count G_all_roads Li.hw_isw
  have G_whole_lots : FnG P w K mg base 5 Z.f_whole_lots.a Z.f_whole_lots.d ["frame"] (spW K 1 Li.wf_wholes) := wk_whole_lots Z G_road_lots G_is_whole_lot Li.hw_wholes
  have G_is_free_lot : FnG P w K mg base 4 Z.f_is_free_lot.a Z.f_is_free_lot.d ["frame", "lot"] (spW K 2 Li.wf_isf) := wk_is_free_lot Z G_piece_count Li.hw_isf
  have G_free_lots_told : FnG P w K mg base 5 Z.f_free_lots_told.a Z.f_free_lots_told.d ["frame"] (spW K 1 Li.wf_frees) := wk_free_lots_told Z G_road_lots G_is_free_lot Li.hw_frees
  have G_all_products : FnG P w K mg base 4 Z.f_all_products.a Z.f_all_products.d ["frame"] (spW K 1 Li.wf_allp) := wk_all_products Z G_road_lots G_product_of Li.hw_allp
  have G_whole_products : FnG P w K mg base 6 Z.f_whole_products.a Z.f_whole_products.d ["frame"] (spW K 1 Li.wf_wholep) := wk_whole_products Z G_whole_lots G_product_of Li.hw_wholep
  have G__law_pick : FnG P w K mg base 1 Z.f__law_pick.a Z.f__law_pick.d ["source", "many"] (spS K 1 wfPick) := wk__law_pick Z
  have G__law_mixed : FnG P w K mg base 2 Z.f__law_mixed.a Z.f__law_mixed.d ["source", "things"] (spS K 1 wfMixed) := wk__law_mixed Z G__law_pick
  have G__law_hung : FnG P w K mg base 3 Z.f__law_hung.a Z.f__law_hung.d ["source", "crossings", "roads"] (spS K 2 Li.wf_hung) := wk__law_hung Z G__law_pick G__law_mixed Li.hw_hung
  have G__law_frame : FnG P w K mg base 4 Z.f__law_frame.a Z.f__law_frame.d ["source", "crossings", "roads"] (spS K 2 Li.wf_lframe) := wk__law_frame Z G__law_pick G__law_hung Li.hw_lframe
  have G__law_told : FnG P w K mg base 1 Z.f__law_told.a Z.f__law_told.d ["numbers"] (spW K 1 Po.wf_ltold) := wk__law_told Z Po.hw_ltold
  have G__law_sum : FnG P w K mg base 2 Z.f__law_sum.a Z.f__law_sum.d ["one", "other", "times"] (spW K 3 Po.wf_psum) := wk__law_sum Z G__law_told Po.hw_lsum
  have G__law_unit : FnG P w K mg base 1 Z.f__law_unit.a Z.f__law_unit.d ["n", "c"] (spW K 2 Li.wf_lunit) := wk__law_unit Z Li.hw_lunit
  have G__law_line : FnG P w K mg base 3 Z.f__law_line.a Z.f__law_line.d ["frame", "r"] (spW K 2 Li.wf_lline) := wk__law_line Z G__law_sum G__law_unit Li.hw_lline
  have G__law_times : FnG P w K mg base 2 Z.f__law_times.a Z.f__law_times.d ["one", "other"] (spW K 2 Po.wf_mul) := wk__law_times Z G__law_told Po.hw_ltimes
  have G__law_one : FnG P w K mg base 1 Z.f__law_one.a Z.f__law_one.d ["n"] (spW K 1 Li.wf_lone) := wk__law_one Z Li.hw_lone
  have G__law_product : FnG P w K mg base 4 Z.f__law_product.a Z.f__law_product.d ["frame", "lot"] (spW K 2 Li.wf_lprod) := wk__law_product Z G__law_one G__law_times G__law_line Li.hw_lprod
  have G__law_lots : FnG P w K mg base 1 Z.f__law_lots.a Z.f__law_lots.d ["m"] (spW K 1 Li.wf_lots) := wk__law_lots Z Li.hw_llots
  have G__law_pieces : FnG P w K mg base 1 Z.f__law_pieces.a Z.f__law_pieces.d ["frame", "roads"] (spW K 2 Li.wf_pieces) := wk__law_pieces Z Li.hw_pieces
  have G__law_many_pieces : FnG P w K mg base 2 Z.f__law_many_pieces.a Z.f__law_many_pieces.d ["frame", "lot"] (spW K 2 Li.wf_manyX) := wk__law_many_pieces Z G__law_pieces Li.hw_manyX
  have G__law_free_lots : FnG P w K mg base 3 Z.f__law_free_lots.a Z.f__law_free_lots.d ["frame"] (spW K 1 Li.wf_frees) := wk__law_free_lots Z G__law_lots G__law_many_pieces Li.hw_lfrees
  have G__law_whole_lots : FnG P w K mg base 3 Z.f__law_whole_lots.a Z.f__law_whole_lots.d ["frame"] (spW K 1 Li.wf_wholes) := wk__law_whole_lots Z G__law_lots G__law_many_pieces Li.hw_lwholes
  exact wk_law Z (wk__law_source Z) G__law_frame G__law_pick G_line_of G__law_line G__law_lots G__law_free_lots G_road_lots G_free_lots_told G_all_products G__law_product G_worth_of G_degree_of G_is_free_lot G_product_of G__law_many_pieces G__law_whole_lots G_whole_lots G_whole_products G_is_whole_lot hw_law
end K09
open PySem PySem.W PyProof.Rows
set_option maxHeartbeats 0 in
theorem PySem.Challenge.cw_starpowers_k09_whole_products_of_lines_holds : PySem.Challenge.rw_starpowers_k09_whole_products_of_lines.Holds := by
  w_on; o_law; k_head; (case hw => w_witness2)
  k_fill
  refine W2.walk_ofG (l := PySem.Challenge.rw_starpowers_k09_whole_products_of_lines) (k := 7) (x := "script") rfl rfl ⟨rfl, by decide, by decide⟩ (fun w h Y => PySem.W.kIn_of Y) ?F
  case F =>
    intro w mg fa h KX G hmg
    refine' K09.top KX G hmg ⟨W2.fnF_mk KX G (fun _ _ _ _ _ _ us hl => match us, hl with | [_], _ => rfl) ?a_degree_of ?l_degree_of ?c_degree_of ?k_degree_of, W2.fnF_mk KX G (fun _ _ _ _ _ _ us hl => match us, hl with | [_, _], _ => rfl) ?a_worth_of ?l_worth_of ?c_worth_of ?k_worth_of, W2.fnF_mk KX G (fun _ _ _ _ _ _ us hl => match us, hl with | [_], _ => rfl) ?a_told_polynomial ?l_told_polynomial ?c_told_polynomial ?k_told_polynomial, W2.fnF_mk KX G (fun _ _ _ _ _ _ us hl => match us, hl with | [_, _], _ => rfl) ?a_unit_powers ?l_unit_powers ?c_unit_powers ?k_unit_powers, W2.fnF_mk KX G (fun _ _ _ _ _ _ us hl => match us, hl with | [_, _], _ => rfl) ?a_line_of ?l_line_of ?c_line_of ?k_line_of, W2.fnF_mk KX G (fun _ _ _ _ _ _ us hl => match us, hl with | [_, _], _ => rfl) ?a_added_powers ?l_added_powers ?c_added_powers ?k_added_powers, W2.fnF_mk KX G (fun _ _ _ _ _ _ us hl => match us, hl with | [_, _], _ => rfl) ?a_polynomial_product ?l_polynomial_product ?c_polynomial_product ?k_polynomial_product, W2.fnF_mk KX G (fun _ _ _ _ _ _ us hl => match us, hl with | [_, _], _ => rfl) ?a_product_of ?l_product_of ?c_product_of ?k_product_of, W2.fnF_mk KX G (fun _ _ _ _ _ _ us hl => match us, hl with | [_], _ => rfl) ?a_all_roads ?l_all_roads ?c_all_roads ?k_all_roads, W2.fnF_mk KX G (fun _ _ _ _ _ _ us hl => match us, hl with | [_], _ => rfl) ?a_road_lots ?l_road_lots ?c_road_lots ?k_road_lots, W2.fnF_mk KX G (fun _ _ _ _ _ _ us hl => match us, hl with | [_, _], _ => rfl) ?a_heads_by ?l_heads_by ?c_heads_by ?k_heads_by, W2.fnF_mk KX G (fun _ _ _ _ _ _ us hl => match us, hl with | [_, _], _ => rfl) ?a_pieces_by ?l_pieces_by ?c_pieces_by ?k_pieces_by, W2.fnF_mk KX G (fun _ _ _ _ _ _ us hl => match us, hl with | [_, _], _ => rfl) ?a_piece_count ?l_piece_count ?c_piece_count ?k_piece_count, W2.fnF_mk KX G (fun _ _ _ _ _ _ us hl => match us, hl with | [_, _], _ => rfl) ?a_is_whole_lot ?l_is_whole_lot ?c_is_whole_lot ?k_is_whole_lot, W2.fnF_mk KX G (fun _ _ _ _ _ _ us hl => match us, hl with | [_], _ => rfl) ?a_whole_lots ?l_whole_lots ?c_whole_lots ?k_whole_lots, W2.fnF_mk KX G (fun _ _ _ _ _ _ us hl => match us, hl with | [_, _], _ => rfl) ?a_is_free_lot ?l_is_free_lot ?c_is_free_lot ?k_is_free_lot, W2.fnF_mk KX G (fun _ _ _ _ _ _ us hl => match us, hl with | [_], _ => rfl) ?a_free_lots_told ?l_free_lots_told ?c_free_lots_told ?k_free_lots_told, W2.fnF_mk KX G (fun _ _ _ _ _ _ us hl => match us, hl with | [_], _ => rfl) ?a_all_products ?l_all_products ?c_all_products ?k_all_products, W2.fnF_mk KX G (fun _ _ _ _ _ _ us hl => match us, hl with | [_], _ => rfl) ?a_whole_products ?l_whole_products ?c_whole_products ?k_whole_products, W2.fnF_mk KX G (fun _ _ _ _ _ _ us hl => match us, hl with | [_], _ => rfl) ?a__law_source ?l__law_source ?c__law_source ?k__law_source, W2.fnF_mk KX G (fun _ _ _ _ _ _ us hl => match us, hl with | [_, _], _ => rfl) ?a__law_pick ?l__law_pick ?c__law_pick ?k__law_pick, W2.fnF_mk KX G (fun _ _ _ _ _ _ us hl => match us, hl with | [_, _], _ => rfl) ?a__law_mixed ?l__law_mixed ?c__law_mixed ?k__law_mixed, W2.fnF_mk KX G (fun _ _ _ _ _ _ us hl => match us, hl with | [_, _, _], _ => rfl) ?a__law_hung ?l__law_hung ?c__law_hung ?k__law_hung, W2.fnF_mk KX G (fun _ _ _ _ _ _ us hl => match us, hl with | [_, _, _], _ => rfl) ?a__law_frame ?l__law_frame ?c__law_frame ?k__law_frame, W2.fnF_mk KX G (fun _ _ _ _ _ _ us hl => match us, hl with | [_], _ => rfl) ?a__law_told ?l__law_told ?c__law_told ?k__law_told, W2.fnF_mk KX G (fun _ _ _ _ _ _ us hl => match us, hl with | [_, _, _], _ => rfl) ?a__law_sum ?l__law_sum ?c__law_sum ?k__law_sum, W2.fnF_mk KX G (fun _ _ _ _ _ _ us hl => match us, hl with | [_, _], _ => rfl) ?a__law_unit ?l__law_unit ?c__law_unit ?k__law_unit, W2.fnF_mk KX G (fun _ _ _ _ _ _ us hl => match us, hl with | [_, _], _ => rfl) ?a__law_line ?l__law_line ?c__law_line ?k__law_line, W2.fnF_mk KX G (fun _ _ _ _ _ _ us hl => match us, hl with | [_, _], _ => rfl) ?a__law_times ?l__law_times ?c__law_times ?k__law_times, W2.fnF_mk KX G (fun _ _ _ _ _ _ us hl => match us, hl with | [_], _ => rfl) ?a__law_one ?l__law_one ?c__law_one ?k__law_one, W2.fnF_mk KX G (fun _ _ _ _ _ _ us hl => match us, hl with | [_, _], _ => rfl) ?a__law_product ?l__law_product ?c__law_product ?k__law_product, W2.fnF_mk KX G (fun _ _ _ _ _ _ us hl => match us, hl with | [_], _ => rfl) ?a__law_lots ?l__law_lots ?c__law_lots ?k__law_lots, W2.fnF_mk KX G (fun _ _ _ _ _ _ us hl => match us, hl with | [_, _], _ => rfl) ?a__law_pieces ?l__law_pieces ?c__law_pieces ?k__law_pieces, W2.fnF_mk KX G (fun _ _ _ _ _ _ us hl => match us, hl with | [_, _], _ => rfl) ?a__law_many_pieces ?l__law_many_pieces ?c__law_many_pieces ?k__law_many_pieces, W2.fnF_mk KX G (fun _ _ _ _ _ _ us hl => match us, hl with | [_], _ => rfl) ?a__law_free_lots ?l__law_free_lots ?c__law_free_lots ?k__law_free_lots, W2.fnF_mk KX G (fun _ _ _ _ _ _ us hl => match us, hl with | [_], _ => rfl) ?a__law_whole_lots ?l__law_whole_lots ?c__law_whole_lots ?k__law_whole_lots, W2.fnF_mk KX G (fun _ _ _ _ _ _ us hl => match us, hl with | [_], _ => rfl) ?a_law ?l_law ?c_law ?k_law, PySem.W.mg_none_of KX G ?z_abs, PySem.W.mg_none_of KX G ?z_dict, PySem.W.mg_none_of KX G ?z_int, PySem.W.mg_none_of KX G ?z_len, PySem.W.mg_none_of KX G ?z_list, PySem.W.mg_none_of KX G ?z_max, PySem.W.mg_none_of KX G ?z_min, PySem.W.mg_none_of KX G ?z_range, PySem.W.mg_none_of KX G ?z_repr, PySem.W.mg_none_of KX G ?z_sorted, PySem.W.mg_none_of KX G ?z_sum, PySem.W.mg_none_of KX G ?z_tuple, PySem.W.mg_none_of KX G ?z_zip⟩
    (case a_degree_of => k_is); (case l_degree_of => k_is); (case c_degree_of => k_is); (case k_degree_of => k_is); (case a_worth_of => k_is); (case l_worth_of => k_is); (case c_worth_of => k_is); (case k_worth_of => k_is); (case a_told_polynomial => k_is); (case l_told_polynomial => k_is); (case c_told_polynomial => k_is); (case k_told_polynomial => k_is); (case a_unit_powers => k_is); (case l_unit_powers => k_is); (case c_unit_powers => k_is); (case k_unit_powers => k_is); (case a_line_of => k_is); (case l_line_of => k_is); (case c_line_of => k_is); (case k_line_of => k_is); (case a_added_powers => k_is); (case l_added_powers => k_is); (case c_added_powers => k_is); (case k_added_powers => k_is); (case a_polynomial_product => k_is); (case l_polynomial_product => k_is); (case c_polynomial_product => k_is); (case k_polynomial_product => k_is); (case a_product_of => k_is); (case l_product_of => k_is); (case c_product_of => k_is); (case k_product_of => k_is); (case a_all_roads => k_is); (case l_all_roads => k_is); (case c_all_roads => k_is); (case k_all_roads => k_is); (case a_road_lots => k_is); (case l_road_lots => k_is); (case c_road_lots => k_is); (case k_road_lots => k_is); (case a_heads_by => k_is); (case l_heads_by => k_is); (case c_heads_by => k_is); (case k_heads_by => k_is); (case a_pieces_by => k_is); (case l_pieces_by => k_is); (case c_pieces_by => k_is); (case k_pieces_by => k_is); (case a_piece_count => k_is); (case l_piece_count => k_is); (case c_piece_count => k_is); (case k_piece_count => k_is); (case a_is_whole_lot => k_is); (case l_is_whole_lot => k_is); (case c_is_whole_lot => k_is); (case k_is_whole_lot => k_is); (case a_whole_lots => k_is); (case l_whole_lots => k_is); (case c_whole_lots => k_is); (case k_whole_lots => k_is); (case a_is_free_lot => k_is); (case l_is_free_lot => k_is); (case c_is_free_lot => k_is); (case k_is_free_lot => k_is); (case a_free_lots_told => k_is); (case l_free_lots_told => k_is); (case c_free_lots_told => k_is); (case k_free_lots_told => k_is); (case a_all_products => k_is); (case l_all_products => k_is); (case c_all_products => k_is); (case k_all_products => k_is); (case a_whole_products => k_is); (case l_whole_products => k_is); (case c_whole_products => k_is); (case k_whole_products => k_is); (case a__law_source => k_is); (case l__law_source => k_is); (case c__law_source => k_is); (case k__law_source => k_is); (case a__law_pick => k_is); (case l__law_pick => k_is); (case c__law_pick => k_is); (case k__law_pick => k_is); (case a__law_mixed => k_is); (case l__law_mixed => k_is); (case c__law_mixed => k_is); (case k__law_mixed => k_is); (case a__law_hung => k_is); (case l__law_hung => k_is); (case c__law_hung => k_is); (case k__law_hung => k_is); (case a__law_frame => k_is); (case l__law_frame => k_is); (case c__law_frame => k_is); (case k__law_frame => k_is); (case a__law_told => k_is); (case l__law_told => k_is); (case c__law_told => k_is); (case k__law_told => k_is); (case a__law_sum => k_is); (case l__law_sum => k_is); (case c__law_sum => k_is); (case k__law_sum => k_is); (case a__law_unit => k_is); (case l__law_unit => k_is); (case c__law_unit => k_is); (case k__law_unit => k_is); (case a__law_line => k_is); (case l__law_line => k_is); (case c__law_line => k_is); (case k__law_line => k_is); (case a__law_times => k_is); (case l__law_times => k_is); (case c__law_times => k_is); (case k__law_times => k_is); (case a__law_one => k_is); (case l__law_one => k_is); (case c__law_one => k_is); (case k__law_one => k_is); (case a__law_product => k_is); (case l__law_product => k_is); (case c__law_product => k_is); (case k__law_product => k_is); (case a__law_lots => k_is); (case l__law_lots => k_is); (case c__law_lots => k_is); (case k__law_lots => k_is); (case a__law_pieces => k_is); (case l__law_pieces => k_is); (case c__law_pieces => k_is); (case k__law_pieces => k_is); (case a__law_many_pieces => k_is); (case l__law_many_pieces => k_is); (case c__law_many_pieces => k_is); (case k__law_many_pieces => k_is); (case a__law_free_lots => k_is); (case l__law_free_lots => k_is); (case c__law_free_lots => k_is); (case k__law_free_lots => k_is); (case a__law_whole_lots => k_is); (case l__law_whole_lots => k_is); (case c__law_whole_lots => k_is); (case k__law_whole_lots => k_is); (case a_law => k_is); (case l_law => k_is); (case c_law => k_is); (case k_law => k_is); (case z_abs => k_is); (case z_dict => k_is); (case z_int => k_is); (case z_len => k_is); (case z_list => k_is); (case z_max => k_is); (case z_min => k_is); (case z_range => k_is); (case z_repr => k_is); (case z_sorted => k_is); (case z_sum => k_is); (case z_tuple => k_is); (case z_zip => k_is)

