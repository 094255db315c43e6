import PyProof.Rows.All
import Wide.All
import OpenK.AllK
import Wide.FinOn
import HandS.ForMost
import HandS.TupAny
import HandS.Deep
import HandS.Style
import HandS.Conv
import HandS.TupLen
import HandS.NoneIn
import HandS.Zip
import HandS.More
import KE.SortData
import HandS.RaiseMore
import HandS.Iter
import KE.KDictWalk
import KE.GoesEnum
import HandS.Wide
import HandS.IsInst
import HandS.Star
import HandS.Gcd
import PyProof.Rows.StrDigits
import PySem.Challenge.RW_starpowers_k25_burn_papers_judged
set_option Elab.async false
set_option linter.all false
set_option maxRecDepth 100000
/-! W2A: data over the abstract heap: what a value is as data (Dt), a frame's slots (Slot, Rep), how a heap grows (Ext2). -/
namespace W2
open PySem PySem.Spec PyProof.Rows L2

abbrev D := PyData
def kD : Key → D
  | .inl i => .int i
  | .inr x => .str x

mutual
/-- v is the data d, whose objects all stand in F (what never changes any more) -/
inductive Dt (K : PySem.W.Frag) (F : Hp) : V → D → Prop
  | non : Dt K F .non .none
  | bl (b : Bool) : Dt K F (.bl b) (.bool b)
  | int (i : Int) : Dt K F (.int i) (.int i)
  | str (x : Str) : Dt K F (.str x) (.str x)
  | lst {a : Addr} {xs : List V} {ds : List D} : F a = some (.lst xs) → DtL K F xs ds → Dt K F (.ref a) (.list ds)
  | tup {a : Addr} {xs : List V} {ds : List D} : F a = some (.tup xs) → DtL K F xs ds → Dt K F (.ref a) (.tuple ds)
  | dK {a : Addr} {o : Obj} {kvs : List (Key × V)} {es : List (D × D)} : F a = some (.frz o (.dK kvs)) → DtK K F kvs es → Dt K F (.ref a) (.dict es)
  | dT {a : Addr} {o : Obj} {kvs : List (List Key × V)} {es : List (D × D)} : F a = some (.frz o (.dT kvs)) → DtT K F kvs es → Dt K F (.ref a) (.dict es)
inductive DtL (K : PySem.W.Frag) (F : Hp) : List V → List D → Prop
  | nil : DtL K F [] []
  | cons {v : V} {vs : List V} {d : D} {ds : List D} : Dt K F v d → DtL K F vs ds → DtL K F (v :: vs) (d :: ds)
inductive DtK (K : PySem.W.Frag) (F : Hp) : List (Key × V) → List (D × D) → Prop
  | nil : DtK K F [] []
  | cons {k : Key} {v : V} {r : List (Key × V)} {d : D} {rs : List (D × D)} : Dt K F v d → DtK K F r rs → DtK K F ((k, v) :: r) ((kD k, d) :: rs)
inductive DtT (K : PySem.W.Frag) (F : Hp) : List (List Key × V) → List (D × D) → Prop
  | nil : DtT K F [] []
  | cons {k : List Key} {v : V} {r : List (List Key × V)} {d : D} {rs : List (D × D)} : Dt K F v d → DtT K F r rs → DtT K F ((k, v) :: r) ((.tuple (k.map kD), d) :: rs)
end

theorem Same.seqT {K : PySem.W.Frag} {H H' : Hp} {a : Addr} {xs : List V} (e : Same H H') (h : SqT K H a xs) : SqT K H' a xs := by
  rcases h with (h | ⟨o, h⟩) | h
  · exact .inl (.inl (e _ _ h))
  · exact .inl (.inr ⟨o, e _ _ h⟩)
  · exact .inr h

mutual
theorem Dt.mono {K : PySem.W.Frag} {F F' : Hp} (e : Same F F') : ∀ {v : V} {d : D}, Dt K F v d → Dt K F' v d
  | _, _, .non => .non
  | _, _, .bl b => .bl b
  | _, _, .int i => .int i
  | _, _, .str x => .str x
  | _, _, .lst h hs => .lst (e _ _ h) (DtL.mono e hs)
  | _, _, .tup h hs => .tup (e _ _ h) (DtL.mono e hs)
  | _, _, .dK h hs => .dK (e _ _ h) (DtK.mono e hs)
  | _, _, .dT h hs => .dT (e _ _ h) (DtT.mono e hs)
theorem DtL.mono {K : PySem.W.Frag} {F F' : Hp} (e : Same F F') : ∀ {vs : List V} {ds : List D}, DtL K F vs ds → DtL K F' vs ds
  | _, _, .nil => .nil
  | _, _, .cons h t => .cons (Dt.mono e h) (DtL.mono e t)
theorem DtK.mono {K : PySem.W.Frag} {F F' : Hp} (e : Same F F') : ∀ {vs : List (Key × V)} {ds : List (D × D)}, DtK K F vs ds → DtK K F' vs ds
  | _, _, .nil => .nil
  | _, _, .cons h t => .cons (Dt.mono e h) (DtK.mono e t)
theorem DtT.mono {K : PySem.W.Frag} {F F' : Hp} (e : Same F F') : ∀ {vs : List (List Key × V)} {ds : List (D × D)}, DtT K F vs ds → DtT K F' vs ds
  | _, _, .nil => .nil
  | _, _, .cons h t => .cons (Dt.mono e h) (DtT.mono e t)
end

section
variable {K : PySem.W.Frag} {F : Hp}
theorem DtL.length : ∀ {vs : List V} {ds : List D}, DtL K F vs ds → vs.length = ds.length
  | _, _, .nil => rfl
  | _, _, .cons _ t => congrArg (· + 1) t.length
theorem DtL.get : ∀ {vs : List V} {ds : List D} (i : Nat) {d : D}, DtL K F vs ds → ds[i]? = some d → ∃ v, vs[i]? = some v ∧ Dt K F v d
  | _, _, _, _, .nil, e => by simp at e
  | _, _, 0, _, .cons h _, e => by simp at e; subst e; exact ⟨_, rfl, h⟩
  | _, _, i + 1, _, .cons _ t, e => by
    obtain ⟨v, h1, h2⟩ := t.get i (by simpa using e)
    exact ⟨v, by simpa using h1, h2⟩
theorem DtL.getV : ∀ {vs : List V} {ds : List D} (i : Nat) {v : V}, DtL K F vs ds → vs[i]? = some v → ∃ d, ds[i]? = some d ∧ Dt K F v d
  | _, _, _, _, .nil, e => by simp at e
  | _, _, 0, _, .cons h _, e => by simp at e; subst e; exact ⟨_, rfl, h⟩
  | _, _, i + 1, _, .cons _ t, e => by
    obtain ⟨v, h1, h2⟩ := t.getV i (by simpa using e)
    exact ⟨v, by simpa using h1, h2⟩
theorem DtL.append : ∀ {vs ws : List V} {ds es : List D}, DtL K F vs ds → DtL K F ws es → DtL K F (vs ++ ws) (ds ++ es)
  | _, _, _, _, .nil, s => s
  | _, _, _, _, .cons h t, s => .cons h (t.append s)
theorem DtL.one {v : V} {d : D} (h : Dt K F v d) : DtL K F [v] [d] := .cons h .nil
theorem DtL.take : ∀ {vs : List V} {ds : List D} (n : Nat), DtL K F vs ds → DtL K F (vs.take n) (ds.take n)
  | _, _, 0, _ => .nil
  | _, _, _ + 1, .nil => .nil
  | _, _, n + 1, .cons h t => .cons h (t.take n)
theorem DtL.drop : ∀ {vs : List V} {ds : List D} (n : Nat), DtL K F vs ds → DtL K F (vs.drop n) (ds.drop n)
  | _, _, 0, h => h
  | _, _, _ + 1, .nil => .nil
  | _, _, n + 1, .cons _ t => t.drop n
theorem DtL.set {v : V} {d : D} (h : Dt K F v d) : ∀ {vs : List V} {ds : List D} (n : Nat), DtL K F vs ds → DtL K F (vs.set n v) (ds.set n d)
  | _, _, _, .nil => .nil
  | _, _, 0, .cons _ t => .cons h t
  | _, _, n + 1, .cons k t => .cons k (t.set h n)
theorem DtL.reverse : ∀ {vs : List V} {ds : List D}, DtL K F vs ds → DtL K F vs.reverse ds.reverse
  | _, _, .nil => .nil
  | _, _, .cons h t => by
    rw [List.reverse_cons, List.reverse_cons]
    exact t.reverse.append (.one h)
theorem DtL.of : ∀ {vs : List V} {ds : List D}, vs.length = ds.length → (∀ (i : Nat) v d, vs[i]? = some v → ds[i]? = some d → Dt K F v d) → DtL K F vs ds
  | [], [], _, _ => .nil
  | v :: vs, d :: ds, hl, h => .cons (h 0 v d rfl rfl) (DtL.of (by simpa using hl) fun i v d h1 h2 => h (i + 1) v d (by simpa using h1) (by simpa using h2))
  | [], _ :: _, hl, _ => by simp at hl
  | _ :: _, [], hl, _ => by simp at hl
theorem DtL.intsV : ∀ {vs : List V} {ns : List Int}, DtL K F vs (ns.map PyData.int) → vs = ns.map V.int
  | _, [], h => by cases h; rfl
  | _, n :: ns, h => by
    cases h with
    | cons a t =>
      cases a
      rw [t.intsV]; rfl
theorem DtL.ints : ∀ (ns : List Int), DtL K F (ns.map V.int) (ns.map PyData.int)
  | [] => .nil
  | n :: ns => .cons (.int n) (DtL.ints ns)
theorem Dt.key : ∀ (k : Key), Dt K F (kV k) (kD k)
  | .inl i => .int i
  | .inr x => .str x
theorem DtL.keys : ∀ (ks : List Key), DtL K F (ks.map kV) (ks.map kD)
  | [] => .nil
  | k :: ks => .cons (Dt.key k) (DtL.keys ks)
theorem Dt.keyV {v : V} : ∀ {k : Key}, Dt K F v (kD k) → v = kV k
  | .inl i, h => by cases h; rfl
  | .inr x, h => by cases h; rfl
theorem DtL.keysV : ∀ {vs : List V} {ks : List Key}, DtL K F vs (ks.map kD) → vs = ks.map kV
  | _, [], h => by cases h; rfl
  | _, k :: ks, h => by
    cases h with
    | cons a t => rw [a.keyV, t.keysV]; rfl
end

/-! ### the law's source of numbers: one dict and its list of cells -/
structure SrcAt (H : Hp) (a b : Addr) : Prop where
  ne : a ≠ b
  ex : ∃ (cs : List Int) (l m t : Int), H a = some (.dK [(.inr "cells", .ref b), (.inr "left", .int l), (.inr "mixed", .int m), (.inr "turn", .int t)]) ∧ H b = some (.lst (cs.map V.int)) ∧
    (∀ c ∈ cs, 0 ≤ c) ∧ 0 ≤ l ∧ 0 ≤ m ∧ m < 2147483648 ∧ 0 ≤ t
abbrev Sx := Option (Addr × Addr)
def inSx : Sx → Addr → Prop
  | none, _ => False
  | some (a, b), c => c = a ∨ c = b
def SxOk : Sx → Hp → Prop
  | none, _ => True
  | some (a, b), H => SrcAt H a b
theorem SxOk.notup {sx : Sx} {H : Hp} (h : SxOk sx H) {c : Addr} (hc : inSx sx c) {xs : List V} : H c ≠ some (.tup xs) := by
  cases sx with
  | none => exact hc.elim
  | some p =>
    obtain ⟨a, b⟩ := p
    obtain ⟨_, cs, l, m, t, h1, h2, _⟩ := h
    rcases hc with rfl | rfl
    · rw [h1]; intro z; cases z
    · rw [h2]; intro z; cases z
theorem SxOk.there {sx : Sx} {H : Hp} (h : SxOk sx H) {c : Addr} (hc : inSx sx c) : ∃ o, H c = some o := by
  cases sx with
  | none => exact hc.elim
  | some p =>
    obtain ⟨a, b⟩ := p
    obtain ⟨_, cs, l, m, t, h1, h2, _⟩ := h
    rcases hc with rfl | rfl
    · exact ⟨_, h1⟩
    · exact ⟨_, h2⟩

/-- the heap grows: F is what never changes, H all that is tracked -/
structure Ext2 (sx : Sx) (F H F' H' : Hp) : Prop where
  sF : Same F F'
  sH : ∀ b o, H b = some o → ¬ inSx sx b → H' b = some o
  le : Same F' H'
  fr : ∀ b o, F' b = some o → F b = some o ∨ H b = none ∨ ∃ xs, o = .tup xs
  ok : SxOk sx H'
structure Base (sx : Sx) (F H : Hp) : Prop where
  le : Same F H
  ok : SxOk sx H
  no : ∀ b, inSx sx b → F b = none
section
variable {sx : Sx} {F H F1 H1 F2 H2 : Hp}
theorem Ext2.refl (b : Base sx F H) : Ext2 sx F H F H := ⟨Same.refl F, fun _ _ h _ => h, b.le, fun _ _ h => .inl h, b.ok⟩
theorem Ext2.back (e : Ext2 sx F H F1 H1) {b : Addr} (h : H1 b = none) : H b = none := by
  cases q : H b with
  | none => rfl
  | some o =>
    by_cases hb : inSx sx b
    · obtain ⟨o', ho⟩ := e.ok.there hb
      rw [h] at ho; cases ho
    · rw [e.sH b o q hb] at h; cases h
theorem Ext2.trans (e : Ext2 sx F H F1 H1) (f : Ext2 sx F1 H1 F2 H2) : Ext2 sx F H F2 H2 where
  sF := e.sF.trans f.sF
  sH := fun b o h n => f.sH b o (e.sH b o h n) n
  le := f.le
  fr := fun b o h => by
    rcases f.fr b o h with h | h | h
    · exact e.fr b o h
    · exact .inr (.inl (e.back h))
    · exact .inr (.inr h)
  ok := f.ok
theorem Ext2.base (b : Base sx F H) (e : Ext2 sx F H F1 H1) : Base sx F1 H1 where
  le := e.le
  ok := e.ok
  no := fun c hc => by
    cases q : F1 c with
    | none => rfl
    | some o =>
      rcases e.fr c o q with h | h | ⟨xs, rfl⟩
      · rw [b.no c hc] at h; cases h
      · obtain ⟨o', ho⟩ := b.ok.there hc
        rw [h] at ho; cases ho
      · exact absurd (e.le _ _ q) (e.ok.notup hc)
/-- a new object, frozen at once -/
theorem Ext2.new (b : Base sx F H) {p : Addr} {o : HO} (hp : H p = none) : Ext2 sx F H (upd F p o) (upd H p o) where
  sF := fun c u h => by
    rw [upd_ne]
    · exact h
    · intro e; subst e
      rw [b.le _ _ h] at hp; cases hp
  sH := fun c u h _ => by rw [upd_ne (ne_of_none h hp)]; exact h
  le := fun c u h => by
    by_cases e : c = p
    · subst e; rw [upd_same] at h ⊢; exact h
    · rw [upd_ne e] at h ⊢; exact b.le _ _ h
  fr := fun c u h => by
    by_cases e : c = p
    · subst e; exact .inr (.inl hp)
    · rw [upd_ne e] at h; exact .inl h
  ok := by
    cases sx with
    | none => trivial
    | some q =>
      obtain ⟨a1, b1⟩ := q
      obtain ⟨n, cs, l, m, t, h1, h2, r⟩ := b.ok
      exact ⟨n, cs, l, m, t, by rw [upd_ne (ne_of_none h1 hp)]; exact h1, by rw [upd_ne (ne_of_none h2 hp)]; exact h2, r⟩
/-- a new object, not frozen -/
theorem Ext2.newF (b : Base sx F H) {p : Addr} {o : HO} (hp : H p = none) : Ext2 sx F H F (upd H p o) :=
  let e := Ext2.new (o := o) b hp
  ⟨Same.refl F, e.sH, fun c u h => by rw [upd_ne (ne_of_none (b.le _ _ h) hp)]; exact b.le _ _ h, fun _ _ h => .inl h, e.ok⟩
/-- a call that changes nothing -/
theorem Ext2.pure (b : Base sx F H) (e : Ext2 none F H F1 H1) : Ext2 sx F H F1 H1 where
  sF := e.sF
  sH := fun c o h _ => e.sH c o h (fun z => z)
  le := e.le
  fr := e.fr
  ok := by
    cases sx with
    | none => trivial
    | some q =>
      obtain ⟨a1, b1⟩ := q
      obtain ⟨n, cs, l, m, t, h1, h2, r⟩ := b.ok
      exact ⟨n, cs, l, m, t, e.sH _ _ h1 (fun z => z), e.sH _ _ h2 (fun z => z), r⟩
end

/-! ### a frame's slots -/
inductive Slot where
  | un
  | fz (d : D)
  | ow (d : D)
  | src
abbrev En := List Slot
def OwnAt (K : PySem.W.Frag) (F H : Hp) (a : Addr) : D → Prop
  | .list ds => ∃ xs, H a = some (.lst xs) ∧ DtL K F xs ds
  | .dict es => (∃ kvs, H a = some (.dK kvs) ∧ DtK K F kvs es) ∨ ∃ kvs, H a = some (.dT kvs) ∧ DtT K F kvs es
  | _ => False
theorem OwnAt.there {K : PySem.W.Frag} {F H : Hp} {a : Addr} {d : D} (h : OwnAt K F H a d) : ∃ o, H a = some o := by
  cases d with
  | list ds => exact ⟨_, h.choose_spec.1⟩
  | dict es =>
    rcases h with ⟨kvs, h, _⟩ | ⟨kvs, h, _⟩
    · exact ⟨_, h⟩
    · exact ⟨_, h⟩
  | _ => exact h.elim
theorem OwnAt.mono {K : PySem.W.Frag} {F H F' H' : Hp} {a : Addr} {d : D} (h : OwnAt K F H a d) (e : Same F F') (k : ∀ o, H a = some o → H' a = some o) : OwnAt K F' H' a d := by
  cases d with
  | list ds => obtain ⟨xs, h1, h2⟩ := h; exact ⟨xs, k _ h1, h2.mono e⟩
  | dict es =>
    rcases h with ⟨kvs, h1, h2⟩ | ⟨kvs, h1, h2⟩
    · exact .inl ⟨kvs, k _ h1, h2.mono e⟩
    · exact .inr ⟨kvs, k _ h1, h2.mono e⟩
  | _ => exact h.elim
theorem OwnAt.notup {K : PySem.W.Frag} {F H H' : Hp} {a : Addr} {d : D} (h : OwnAt K F H a d) (k : ∀ o, H a = some o → H' a = some o) {xs : List V} : H' a ≠ some (.tup xs) := by
  cases d with
  | list ds => obtain ⟨ys, h1, h2⟩ := h; rw [k _ h1]; intro z; cases z
  | dict es =>
    rcases h with ⟨kvs, h1, h2⟩ | ⟨kvs, h1, h2⟩
    · rw [k _ h1]; intro z; cases z
    · rw [k _ h1]; intro z; cases z
  | _ => exact h.elim
def SlotOk (K : PySem.W.Frag) (sx : Sx) (H0 F H : Hp) (v : Option V) : Slot → Prop
  | .un => True
  | .fz d => ∃ x, v = some x ∧ Dt K F x d
  | .ow d => ∃ a, v = some (.ref a) ∧ OwnAt K F H a d ∧ F a = none ∧ H0 a = none ∧ ¬ inSx sx a
  | .src => ∃ a b, sx = some (a, b) ∧ v = some (.ref a)
/-- the frame η over the slots σ and the heap H; H0, F0: as they were at the def's entry -/
structure Rep (K : PySem.W.Frag) (sx : Sx) (H0 F0 F : Hp) (σ : L2.St) (H : Hp) (η : En) : Prop where
  base : Base sx F H
  s0 : ∀ b o, H0 b = some o → ¬ inSx sx b → H b = some o
  f0 : Same F0 F
  fr : ∀ b o, F b = some o → F0 b = some o ∨ H0 b = none ∨ ∃ xs, o = .tup xs
  len : η.length = σ.length
  sl : ∀ (i : Nat) (s : Slot) (v : Option V), η[i]? = some s → σ[i]? = some v → SlotOk K sx H0 F H v s
  sep : ∀ (i j : Nat) (d e : D) (a : Addr), η[i]? = some (.ow d) → η[j]? = some (.ow e) → σ[i]? = some (some (.ref a)) → σ[j]? = some (some (.ref a)) → i = j
section
variable {K : PySem.W.Frag} {sx : Sx} {H0 F0 F H F1 H1 : Hp} {σ : L2.St} {η : En}
theorem Rep.ext (r : Rep K sx H0 F0 F σ H η) (e : Ext2 sx F H F1 H1) : Rep K sx H0 F0 F1 σ H1 η where
  base := e.base r.base
  s0 := fun b o h n => e.sH b o (r.s0 b o h n) n
  f0 := r.f0.trans e.sF
  fr := fun b o h => by
    rcases e.fr b o h with h | h | h
    · exact r.fr b o h
    rotate_left
    · exact .inr (.inr h)
    · refine .inr (.inl ?_)
      cases q : H0 b with
      | none => rfl
      | some u =>
        by_cases hb : inSx sx b
        · obtain ⟨o', ho⟩ := r.base.ok.there hb
          rw [h] at ho; cases ho
        · rw [r.s0 b u q hb] at h; cases h
  len := r.len
  sl := fun i s v h1 h2 => by
    have q := r.sl i s v h1 h2
    cases s with
    | un => trivial
    | fz d => obtain ⟨x, hx, hd⟩ := q; exact ⟨x, hx, hd.mono e.sF⟩
    | ow d =>
      obtain ⟨a, hv, ho, hf, h0, hn⟩ := q
      refine ⟨a, hv, ho.mono e.sF fun o z => e.sH a o z hn, ?_, h0, hn⟩
      cases z : F1 a with
      | none => rfl
      | some u =>
        rcases e.fr a u z with y | y | ⟨xs, rfl⟩
        · rw [hf] at y; cases y
        · obtain ⟨u', hu⟩ := ho.there
          rw [y] at hu; cases hu
        · obtain ⟨u', hu⟩ := ho.there
          exact absurd (e.le _ _ z) (ho.notup (fun o z => e.sH a o z hn))
    | src => exact q
  sep := r.sep
/-- what the def hands back is so for its caller -/
theorem Rep.out (r : Rep K sx H0 F0 F σ H η) : Ext2 sx F0 H0 F H := ⟨r.f0, r.s0, r.base.le, r.fr, r.base.ok⟩
end

/-- what can be read now: frozen, or a slot's own -/
def Op (K : PySem.W.Frag) (F : Hp) (σ : L2.St) (η : En) (v : V) (d : D) : Prop :=
  Dt K F v d ∨ ∃ (i : Nat) (a : Addr), η[i]? = some (.ow d) ∧ σ[i]? = some (some (.ref a)) ∧ v = .ref a
/-- what can be read now, by the heap alone -/
def Nw (K : PySem.W.Frag) (F H : Hp) (v : V) (d : D) : Prop := Dt K F v d ∨ ∃ a, v = .ref a ∧ OwnAt K F H a d
section
variable {K : PySem.W.Frag} {sx : Sx} {H0 F0 F H F1 H1 : Hp} {σ : L2.St} {η : En} {v : V} {d : D}
theorem Op.mono (h : Op K F σ η v d) (e : Same F F1) : Op K F1 σ η v d := by
  rcases h with h | h
  · exact .inl (h.mono e)
  · exact .inr h
theorem Op.nw (h : Op K F σ η v d) (r : Rep K sx H0 F0 F σ H η) : Nw K F H v d := by
  rcases h with h | ⟨i, a, h1, h2, h3⟩
  · exact .inl h
  · obtain ⟨a', e, ho, _⟩ := r.sl i _ _ h1 h2
    cases e
    exact .inr ⟨a, h3, ho⟩
theorem Nw.int {i : Int} (h : Nw K F H v (.int i)) : v = .int i := by
  rcases h with h | ⟨a, _, h⟩
  · cases h; rfl
  · exact h.elim
theorem Nw.bool {i : Bool} (h : Nw K F H v (.bool i)) : v = .bl i := by
  rcases h with h | ⟨a, _, h⟩
  · cases h; rfl
  · exact h.elim
theorem Nw.str {i : Str} (h : Nw K F H v (.str i)) : v = .str i := by
  rcases h with h | ⟨a, _, h⟩
  · cases h; rfl
  · exact h.elim
theorem Nw.none (h : Nw K F H v .none) : v = .non := by
  rcases h with h | ⟨a, _, h⟩
  · cases h; rfl
  · exact h.elim
theorem Nw.list {ds : List D} (h : Nw K F H v (.list ds)) (le : Same F H) : ∃ a xs, v = .ref a ∧ H a = some (.lst xs) ∧ DtL K F xs ds := by
  rcases h with h | ⟨a, e, h⟩
  · cases h with
    | lst h1 h2 => exact ⟨_, _, rfl, le _ _ h1, h2⟩
  · obtain ⟨xs, h1, h2⟩ := h
    exact ⟨a, xs, e, h1, h2⟩
theorem Nw.tuple {ds : List D} (h : Nw K F H v (.tuple ds)) : ∃ a xs, v = .ref a ∧ F a = some (.tup xs) ∧ DtL K F xs ds := by
  rcases h with h | ⟨a, e, h⟩
  · cases h with
    | tup h1 h2 => exact ⟨_, _, rfl, h1, h2⟩
  · exact h.elim
theorem Nw.tupleH {ds : List D} (h : Nw K F H v (.tuple ds)) (le : Same F H) : ∃ a xs, v = .ref a ∧ SqT K H a xs ∧ DtL K F xs ds := by
  obtain ⟨a, xs, e, h1, h2⟩ := h.tuple
  exact ⟨a, xs, e, SqT.of (le _ _ h1), h2⟩
theorem Nw.dict {es : List (D × D)} (h : Nw K F H v (.dict es)) (le : Same F H) : ∃ a, v = .ref a ∧ ((∃ kvs, Rd H a (.dK kvs) ∧ DtK K F kvs es) ∨ ∃ kvs, Rd H a (.dT kvs) ∧ DtT K F kvs es) := by
  rcases h with h | ⟨a, e, h⟩
  · cases h with
    | dK h1 h2 => exact ⟨_, rfl, .inl ⟨_, .inr ⟨_, le _ _ h1⟩, h2⟩⟩
    | dT h1 h2 => exact ⟨_, rfl, .inr ⟨_, .inr ⟨_, le _ _ h1⟩, h2⟩⟩
  · rcases h with ⟨kvs, h1, h2⟩ | ⟨kvs, h1, h2⟩
    · exact ⟨a, e, .inl ⟨kvs, .inl h1, h2⟩⟩
    · exact ⟨a, e, .inr ⟨kvs, .inl h1, h2⟩⟩
end
end W2

set_option Elab.async false
set_option linter.all false
set_option maxRecDepth 100000
/-! W2B: readings over data: expressions. -/
namespace W2
open PySem PySem.Spec PyProof.Rows L2

abbrev WE := En → (D → Prop) → Prop
abbrev WT := En → (Bool → Prop) → Prop
abbrev WA := En → (List D → Prop) → Prop
/-- what follows a value -/
def Cont (K : PySem.W.Frag) (sx : Sx) (F H : Hp) (Q : D → Prop) (R : VK) : Prop := ∀ d v F' H', Q d → Ext2 sx F H F' H' → Dt K F' v d → R v H'
/-- what follows a new list -/
def ContL (K : PySem.W.Frag) (sx : Sx) (F H : Hp) (Q : D → Prop) (R : VK) : Prop :=
  ∀ ds xs a F' H', Q (.list ds) → Ext2 sx F H F' H' → H' a = some (.lst xs) → DtL K F' xs ds → F' a = none → H a = none → R (.ref a) H'
/-- what follows a new dict -/
def ContD (K : PySem.W.Frag) (sx : Sx) (F H : Hp) (Q : D → Prop) (R : VK) : Prop :=
  ∀ es a F' H', Q (.dict es) → Ext2 sx F H F' H' → OwnAt K F' H' a (.dict es) → F' a = none → H a = none → R (.ref a) H'
def ContO (K : PySem.W.Frag) (sx : Sx) (F H : Hp) (σ : L2.St) (η : En) (Q : D → Prop) (R : VK) : Prop := ∀ d v F' H', Q d → Ext2 sx F H F' H' → Op K F' σ η v d → R v H'
def ContT (sx : Sx) (F H : Hp) (Q : Bool → Prop) (R : Bool → Hp → Prop) : Prop := ∀ b F' H', Q b → Ext2 sx F H F' H' → R b H'
abbrev OpL (K : PySem.W.Frag) (F : Hp) (σ : L2.St) (η : En) : List V → List D → Prop := Paired (Op K F σ η)
def ContA (K : PySem.W.Frag) (sx : Sx) (F H : Hp) (σ : L2.St) (η : En) (Q : List D → Prop) (R : List V → Hp → Prop) : Prop := ∀ ds vs F' H', Q ds → Ext2 sx F H F' H' → OpL K F' σ η vs ds → R vs H'
def ContB (K : PySem.W.Frag) (sx : Sx) (F H : Hp) (Q : List D → Prop) (R : List V → Hp → Prop) : Prop := ∀ ds vs F' H', Q ds → Ext2 sx F H F' H' → DtL K F' vs ds → R vs H'

def SemE (K : PySem.W.Frag) (t : TE) (w : WE) : Prop := ∀ {sx : Sx} {H0 F0 F : Hp} {σ : L2.St} {H : Hp} {η : En} {Q : D → Prop} {R : VK}, Rep K sx H0 F0 F σ H η → w η Q → Cont K sx F H Q R → t σ H R
def SemL (K : PySem.W.Frag) (t : TE) (w : WE) : Prop := ∀ {sx : Sx} {H0 F0 F : Hp} {σ : L2.St} {H : Hp} {η : En} {Q : D → Prop} {R : VK}, Rep K sx H0 F0 F σ H η → w η Q → ContL K sx F H Q R → t σ H R
def SemD (K : PySem.W.Frag) (t : TE) (w : WE) : Prop := ∀ {sx : Sx} {H0 F0 F : Hp} {σ : L2.St} {H : Hp} {η : En} {Q : D → Prop} {R : VK}, Rep K sx H0 F0 F σ H η → w η Q → ContD K sx F H Q R → t σ H R
def SemO (K : PySem.W.Frag) (t : TE) (w : WE) : Prop := ∀ {sx : Sx} {H0 F0 F : Hp} {σ : L2.St} {H : Hp} {η : En} {Q : D → Prop} {R : VK}, Rep K sx H0 F0 F σ H η → w η Q → ContO K sx F H σ η Q R → t σ H R
def SemT (K : PySem.W.Frag) (t : TT) (w : WT) : Prop := ∀ {sx : Sx} {H0 F0 F : Hp} {σ : L2.St} {H : Hp} {η : En} {Q : Bool → Prop} {R : Bool → Hp → Prop}, Rep K sx H0 F0 F σ H η → w η Q → ContT sx F H Q R → t σ H R
def SemA (K : PySem.W.Frag) (t : TA) (w : WA) : Prop := ∀ {sx : Sx} {H0 F0 F : Hp} {σ : L2.St} {H : Hp} {η : En} {Q : List D → Prop} {R : List V → Hp → Prop}, Rep K sx H0 F0 F σ H η → w η Q → ContA K sx F H σ η Q R → t σ H R
def SemB (K : PySem.W.Frag) (t : TA) (w : WA) : Prop := ∀ {sx : Sx} {H0 F0 F : Hp} {σ : L2.St} {H : Hp} {η : En} {Q : List D → Prop} {R : List V → Hp → Prop}, Rep K sx H0 F0 F σ H η → w η Q → ContB K sx F H Q R → t σ H R

/-- an expression: what it gives is frozen -/
structure DE (X : Cx) (e : Expr) (t : TE) (w : WE) : Prop where
  pe : PE X e t
  sem : SemE X.K t w
/-- .. a new list, of its own -/
structure DL (X : Cx) (e : Expr) (t : TE) (w : WE) : Prop where
  pe : PE X e t
  sem : SemL X.K t w
/-- .. a new dict -/
structure DD (X : Cx) (e : Expr) (t : TE) (w : WE) : Prop where
  pe : PE X e t
  sem : SemD X.K t w
/-- .. an operand -/
structure DO (X : Cx) (e : Expr) (t : TE) (w : WE) : Prop where
  pe : PE X e t
  sem : SemO X.K t w
structure DTs (X : Cx) (e : Expr) (t : TT) (w : WT) : Prop where
  pt : PT X e t
  sem : SemT X.K t w
structure DW (X : Cx) (e : Expr) (t : TT) (w : WT) : Prop where
  pw : PW X e t
  sem : SemT X.K t w
/-- operands in a row -/
structure DA (X : Cx) (es : List Expr) (t : TA) (w : WA) : Prop where
  pa : PA X es t
  sem : SemA X.K t w
/-- frozen values in a row -/
structure DB (X : Cx) (es : List Expr) (t : TA) (w : WA) : Prop where
  pa : PA X es t
  sem : SemB X.K t w

section
variable {K : PySem.W.Frag} {sx : Sx} {F H F1 H1 : Hp} {σ : L2.St} {η : En} {Q : D → Prop} {R : VK}
theorem Cont.ext (k : Cont K sx F H Q R) (e : Ext2 sx F H F1 H1) : Cont K sx F1 H1 Q R := fun d v F' H' q e' h => k d v F' H' q (e.trans e') h
theorem ContL.ext (k : ContL K sx F H Q R) (e : Ext2 sx F H F1 H1) : ContL K sx F1 H1 Q R := fun ds xs a F' H' q e' h1 h2 h3 h4 => k ds xs a F' H' q (e.trans e') h1 h2 h3 (e.back h4)
theorem ContD.ext (k : ContD K sx F H Q R) (e : Ext2 sx F H F1 H1) : ContD K sx F1 H1 Q R := fun es a F' H' q e' h1 h2 h3 => k es a F' H' q (e.trans e') h1 h2 (e.back h3)
theorem ContT.ext {Q : Bool → Prop} {R : Bool → Hp → Prop} (k : ContT sx F H Q R) (e : Ext2 sx F H F1 H1) : ContT sx F1 H1 Q R := fun b F' H' q e' => k b F' H' q (e.trans e')
theorem Cont.now (k : Cont K sx F H Q R) (b : Base sx F H) {d : D} {v : V} (q : Q d) (h : Dt K F v d) : R v H := k d v F H q (.refl b) h
/-- a new list is frozen at once -/
theorem Cont.list (k : Cont K sx F H Q R) : ContL K sx F H Q R := fun ds xs a F' H' q e h1 h2 h3 h4 => by
  refine k (.list ds) (.ref a) (upd F' a (.lst xs)) H' q ⟨?_, e.sH, ?_, ?_, e.ok⟩ (.lst upd_same (h2.mono ?_))
  · intro b o h
    rw [upd_ne (ne_of_none (e.sF _ _ h) h3)]
    exact e.sF _ _ h
  · intro b o h
    by_cases hb : b = a
    · subst hb; rw [upd_same] at h; cases h; exact h1
    · rw [upd_ne hb] at h; exact e.le _ _ h
  · intro b o h
    by_cases hb : b = a
    · subst hb; exact .inr (.inl h4)
    · rw [upd_ne hb] at h; exact e.fr _ _ h
  · intro b o h
    rw [upd_ne (ne_of_none h h3)]
    exact h
/-- a new list laid -/
theorem ContL.new (k : ContL K sx F H Q R) (b : Base sx F H) {ds : List D} {xs : List V} (q : Q (.list ds)) (h : DtL K F xs ds) : ∀ p, H p = none → R (.ref p) (upd H p (.lst xs)) := fun p hp => by
  refine k ds xs p F (upd H p (.lst xs)) q (.newF b hp) upd_same h ?_ hp
  cases z : F p with
  | none => rfl
  | some o => rw [b.le _ _ z] at hp; cases hp
/-- a new tuple laid -/
theorem Cont.tup (k : Cont K sx F H Q R) (b : Base sx F H) {ds : List D} {xs : List V} (q : Q (.tuple ds)) (h : DtL K F xs ds) : ∀ p, H p = none → R (.ref p) (upd H p (.tup xs)) := fun p hp => by
  have e := Ext2.new (o := .tup xs) b hp
  exact k (.tuple ds) (.ref p) _ _ q e (.tup upd_same (h.mono e.sF))
theorem OpL.mono {vs : List V} {ds : List D} (h : OpL K F σ η vs ds) (e : Same F F1) : OpL K F1 σ η vs ds := Paired.mapP h fun _ _ z => z.mono e
end

section
variable {X : Cx} {e : Expr} {t : TE} {w : WE}
theorem SemE.op {K : PySem.W.Frag} (h : SemE K t w) : SemO K t w := fun r hw k => h r hw fun d v F' H' q e z => k d v F' H' q e (.inl z)
theorem DE.op (h : DE X e t w) : DO X e t w := ⟨h.pe, SemE.op h.sem⟩
theorem SemL.fr {K : PySem.W.Frag} (h : SemL K t w) : SemE K t w := fun r hw k => h r hw k.list
theorem DL.fr (h : DL X e t w) : DE X e t w := ⟨h.pe, SemL.fr h.sem⟩
theorem DL.op (h : DL X e t w) : DO X e t w := h.fr.op
end

/-! ### names, constants -/
def wN (i : Nat) : WE := fun η Q => match η[i]? with
  | some (.fz d) => Q d
  | _ => False
def wB (i : Nat) : WE := fun η Q => match η[i]? with
  | some (.fz d) => Q d
  | some (.ow d) => Q d
  | _ => False
def wC (d : D) : WE := fun _ Q => Q d
theorem Rep.val {K : PySem.W.Frag} {sx : Sx} {H0 F0 F H : Hp} {σ : L2.St} {η : En} (r : Rep K sx H0 F0 F σ H η) {i : Nat} {s : Slot} (h : η[i]? = some s) : ∃ v, σ[i]? = some v ∧ SlotOk K sx H0 F H v s := by
  have hi : i < η.length := (List.getElem?_eq_some_iff.mp h).1
  have hi' : i < σ.length := by rw [← r.len]; exact hi
  exact ⟨σ[i], List.getElem?_eq_getElem hi', r.sl i s _ h (List.getElem?_eq_getElem hi')⟩
theorem sem_name {K : PySem.W.Frag} {i : Nat} : SemE K (tVar i) (wN i) := fun {sx H0 F0 F σ H η Q R} r hw k => by
  unfold wN at hw
  split at hw
  · rename_i d h
    obtain ⟨v, h1, x, rfl, h2⟩ := r.val h
    exact ⟨x, h1, k.now r.base hw h2⟩
  · exact hw.elim
theorem sem_nameB {K : PySem.W.Frag} {i : Nat} : SemO K (tVar i) (wB i) := fun {sx H0 F0 F σ H η Q R} r hw k => by
  unfold wB at hw
  split at hw
  · rename_i d h
    obtain ⟨v, h1, x, rfl, h2⟩ := r.val h
    exact ⟨x, h1, k d x F H hw (.refl r.base) (.inl h2)⟩
  · rename_i d h
    obtain ⟨v, h1, a, rfl, h2⟩ := r.val h
    exact ⟨.ref a, h1, k d (.ref a) F H hw (.refl r.base) (.inr ⟨i, a, h, h1, rfl⟩)⟩
  · exact hw.elim
section
variable {X : Cx}
theorem de_name (i : Nat) {x : Str} {pos : Pos} (hN : X.N[i]? = some x := by rfl) (hv : Vis X.env.scope x := by first | exact Or.inl rfl | exact Or.inr (Or.inl rfl) | exact Or.inr (Or.inr rfl)) (hd : (x == ("__debug__" : Str)) = false := by decide)
    (hcd : (x == ("__classdict__" : Str)) = false := by decide) : DE X (.Name x pos) (tVar i) (wN i) := ⟨pe_var hN hv hd hcd, sem_name⟩
theorem do_name (i : Nat) {x : Str} {pos : Pos} (hN : X.N[i]? = some x := by rfl) (hv : Vis X.env.scope x := by first | exact Or.inl rfl | exact Or.inr (Or.inl rfl) | exact Or.inr (Or.inr rfl)) (hd : (x == ("__debug__" : Str)) = false := by decide)
    (hcd : (x == ("__classdict__" : Str)) = false := by decide) : DO X (.Name x pos) (tVar i) (wB i) := ⟨pe_var hN hv hd hcd, sem_nameB⟩
theorem sem_const {K : PySem.W.Frag} {v : V} {d : D} (h : ∀ F, Dt K F v d) : SemE K (tC v) (wC d) := fun r hw k => k.now r.base hw (h _)
theorem de_int {i j pos} : DE X (.Constant (.int i) j pos) (tC (.int i)) (wC (.int i)) := ⟨pe_int, sem_const fun _ => .int i⟩
theorem de_bl {b j pos} : DE X (.Constant (.bool b) j pos) (tC (.bl b)) (wC (.bool b)) := ⟨pe_bl, sem_const fun _ => .bl b⟩
theorem de_non {j pos} : DE X (.Constant .none j pos) (tC .non) (wC .none) := ⟨pe_non, sem_const fun _ => .non⟩
theorem de_str {x j pos} : DE X (.Constant (.str x) j pos) (tC (.str x)) (wC (.str x)) := ⟨pe_str, sem_const fun _ => .str x⟩
theorem de_glob {x : Str} {v : V} {u : Value} {d : D} {pos : Pos} (hg : Gl X x) (hm : X.mg x = some u) (r : RelV v u) (h : ∀ F, Dt X.K F v d) (hd : (x == ("__debug__" : Str)) = false := by decide) : DE X (.Name x pos) (tC v) (wC d) := ⟨pe_glob hg hm r hd, sem_const h⟩
end

/-! ### operators -/
/-- a two-place reading over data -/
def RSem (K : PySem.W.Frag) (r : R2) (g : D → D → (D → Prop) → Prop) : Prop :=
  ∀ {sx : Sx} {F H : Hp} {x y : V} {dx dy : D} {Q : D → Prop} {R : VK}, Base sx F H → Nw K F H x dx → Nw K F H y dy → g dx dy Q → Cont K sx F H Q R → r x y H R
def RSemL (K : PySem.W.Frag) (r : R2) (g : D → D → (D → Prop) → Prop) : Prop :=
  ∀ {sx : Sx} {F H : Hp} {x y : V} {dx dy : D} {Q : D → Prop} {R : VK}, Base sx F H → Nw K F H x dx → Nw K F H y dy → g dx dy Q → ContL K sx F H Q R → r x y H R
def w2 (g : D → D → (D → Prop) → Prop) (wa wb : WE) : WE := fun η Q => wa η fun x => wb η fun y => g x y Q
theorem sem_op {K : PySem.W.Frag} {r : R2} {g : D → D → (D → Prop) → Prop} {ta tb : TE} {wa wb : WE} (hs : RSem K r g) (ha : SemO K ta wa) (hb : SemO K tb wb) : SemE K (tOp r ta tb) (w2 g wa wb) := fun {sx H0 F0 F σ H η Q R} rp hw k =>
  ha rp hw fun dx x F1 H1 q1 e1 o1 => hb (rp.ext e1) q1 fun dy y F2 H2 q2 e2 o2 =>
    let r2 := (rp.ext e1).ext e2
    hs r2.base ((o1.mono e2.sF).nw r2) (o2.nw r2) q2 (k.ext (e1.trans e2))
theorem sem_opL {K : PySem.W.Frag} {r : R2} {g : D → D → (D → Prop) → Prop} {ta tb : TE} {wa wb : WE} (hs : RSemL K r g) (ha : SemO K ta wa) (hb : SemO K tb wb) : SemL K (tOp r ta tb) (w2 g wa wb) := fun {sx H0 F0 F σ H η Q R} rp hw k =>
  ha rp hw fun dx x F1 H1 q1 e1 o1 => hb (rp.ext e1) q1 fun dy y F2 H2 q2 e2 o2 =>
    let r2 := (rp.ext e1).ext e2
    hs r2.base ((o1.mono e2.sF).nw r2) (o2.nw r2) q2 (k.ext (e1.trans e2))
section
variable {X : Cx} {a b : Expr} {ta tb : TE} {wa wb : WE} {r : R2} {g : D → D → (D → Prop) → Prop}
theorem de_op {op : Operator} {pos : Pos} (ho : OpR X (binaryOp op) r) (hs : RSem X.K r g) (ha : DO X a ta wa) (hb : DO X b tb wb) : DE X (.BinOp a op b pos) (tOp r ta tb) (w2 g wa wb) := ⟨pe_op ho ha.pe hb.pe, sem_op hs ha.sem hb.sem⟩
theorem dl_op {op : Operator} {pos : Pos} (ho : OpR X (binaryOp op) r) (hs : RSemL X.K r g) (ha : DO X a ta wa) (hb : DO X b tb wb) : DL X (.BinOp a op b pos) (tOp r ta tb) (w2 g wa wb) := ⟨pe_op ho ha.pe hb.pe, sem_opL hs ha.sem hb.sem⟩
theorem de_cmp {op : CmpOp} {pos : Pos} (ho : OpR X (compareOp op) r) (hs : RSem X.K r g) (hm : behindInMarks op b = false) (ha : DO X a ta wa) (hb : DO X b tb wb) : DE X (.Compare a [op] [b] pos) (tOp r ta tb) (w2 g wa wb) := ⟨pe_cmpR ho ha.pe hb.pe hm, sem_op hs ha.sem hb.sem⟩
end

/-- + -/
def gAdd : D → D → (D → Prop) → Prop
  | .int i, .int j, Q => Q (.int (i + j))
  | .str x, .str y, Q => x.length + y.length ≤ sizeLine ∧ Q (.str (x ++ y))
  | .list x, .list y, Q => x.length + y.length ≤ sizeLine ∧ Q (.list (x ++ y))
  | .tuple x, .tuple y, Q => x.length + y.length ≤ sizeLine ∧ Q (.tuple (x ++ y))
  | _, _, _ => False
def rAddA (K : PySem.W.Frag) : R2 := fun x y H Q => rI0 (fun i j => .int (i + j)) x y H Q ∨ (∃ i j, x = .str i ∧ y = .str j ∧ i.length + j.length ≤ sizeLine ∧ Q (.str (i ++ j)) H) ∨ rCat x y H Q ∨ rCatA K x y H Q
theorem op_addA {X : Cx} : OpR X (binaryOp .Add) (rAddA X.K) := OpR.or op_add (OpR.or op_add_str (OpR.or op_cat op_catA))
theorem DtL.nil_iff {K : PySem.W.Frag} {F : Hp} {vs : List V} {ds : List D} (h : DtL K F vs ds) : vs = [] ↔ ds = [] := by
  cases h with
  | nil => simp
  | cons _ _ => simp
theorem catL {K : PySem.W.Frag} {sx : Sx} {F H : Hp} {x y : V} {as bs : List D} {Q : D → Prop} {R : VK} (b : Base sx F H) (hx : Nw K F H x (.list as)) (hy : Nw K F H y (.list bs)) (hl : as.length + bs.length ≤ sizeLine) (q : Q (.list (as ++ bs))) (k : ContL K sx F H Q R) : rCat x y H R := by
  obtain ⟨a, xs, rfl, h1, h2⟩ := hx.list b.le
  obtain ⟨c, ys, rfl, h3, h4⟩ := hy.list b.le
  exact ⟨a, c, xs, ys, rfl, rfl, h1, h3, by rw [h2.length, h4.length]; exact hl, k.new b q (h2.append h4)⟩
theorem rs_add {K : PySem.W.Frag} : RSem K (rAddA K) gAdd := fun {sx F H x y dx dy Q R} b hx hy hg k => by
  cases dx <;> cases dy <;> first | exact hg.elim | skip
  · cases hx.int; cases hy.int
    exact .inl ⟨_, _, rfl, rfl, k.now b hg (.int _)⟩
  · cases hx.str; cases hy.str
    exact .inr (.inl ⟨_, _, rfl, rfl, hg.1, k.now b hg.2 (.str _)⟩)
  · exact .inr (.inr (.inl (catL b hx hy hg.1 hg.2 k.list)))
  · obtain ⟨a, xs, rfl, h1, h2⟩ := hx.tupleH b.le
    obtain ⟨c, ys, rfl, h3, h4⟩ := hy.tupleH b.le
    refine .inr (.inr (.inr ⟨a, c, xs, ys, rfl, rfl, h1, h3, by rw [h2.length, h4.length]; exact hg.1, fun e => ?_, fun e e' => ?_, fun _ _ => k.tup b hg.2 (h2.append h4)⟩))
    · have e1 := h2.nil_iff.mp e
      subst e1
      obtain ⟨c', ys', z, h5, h6⟩ := hy.tuple
      cases z
      exact k.now b hg.2 (.tup h5 h6)
    · have e1 := h4.nil_iff.mp e'
      subst e1
      obtain ⟨c', ys', z, h5, h6⟩ := hx.tuple
      cases z
      have q := hg.2
      rw [List.append_nil] at q
      exact k.now b q (.tup h5 h6)
def gCat : D → D → (D → Prop) → Prop
  | .list x, .list y, Q => x.length + y.length ≤ sizeLine ∧ Q (.list (x ++ y))
  | _, _, _ => False
theorem rs_cat {K : PySem.W.Frag} : RSemL K rCat gCat := fun {sx F H x y dx dy Q R} b hx hy hg k => by
  cases dx <;> cases dy <;> first | exact hg.elim | skip
  exact catL b hx hy hg.1 hg.2 k
/-- ints -/
def gI (g : Int → Int → D) : D → D → (D → Prop) → Prop
  | .int i, .int j, Q => Q (g i j)
  | _, _, _ => False
def gIC (C : Int → Int → Prop) (g : Int → Int → D) : D → D → (D → Prop) → Prop
  | .int i, .int j, Q => C i j ∧ Q (g i j)
  | _, _, _ => False
theorem rs_I {K : PySem.W.Frag} {g : Int → Int → V} {g' : Int → Int → D} (h : ∀ F i j, Dt K F (g i j) (g' i j)) : RSem K (rI0 g) (gI g') := fun {sx F H x y dx dy Q R} b hx hy hg k => by
  cases dx <;> cases dy <;> first | exact hg.elim | skip
  cases hx.int; cases hy.int
  exact ⟨_, _, rfl, rfl, k.now b hg (h _ _ _)⟩
theorem rs_IC {K : PySem.W.Frag} {C : Int → Int → Prop} {g : Int → Int → V} {g' : Int → Int → D} (h : ∀ F i j, Dt K F (g i j) (g' i j)) : RSem K (rI C g) (gIC C g') := fun {sx F H x y dx dy Q R} b hx hy hg k => by
  cases dx <;> cases dy <;> first | exact hg.elim | skip
  cases hx.int; cases hy.int
  exact ⟨_, _, rfl, rfl, hg.1, k.now b hg.2 (h _ _ _)⟩
end W2

set_option Elab.async false
set_option linter.all false
set_option maxRecDepth 100000
/-! W2C: readings over data: tests, displays, subscripts, calls of built-ins. -/
namespace W2
open PySem PySem.Spec PyProof.Rows L2

/-! ### data as the library's own (Dp) -/
mutual
theorem Dt.dp {K : PySem.W.Frag} {F H : Hp} (le : Same F H) : ∀ {v : V} {d : D}, Dt K F v d → d.canLay0 = true → Dp K H v d
  | _, _, .non, _ => .non
  | _, _, .bl b, _ => .bl b
  | _, _, .int i, _ => .int i
  | _, _, .str x, _ => .str x
  | _, _, .lst h hs, c => .lst (SqL.of (le _ _ h)) (DtL.dp le hs (by simpa [PyData.canLay0] using c))
  | _, _, .tup h hs, c => .tup (SqT.of (le _ _ h)) (DtL.dp le hs (by simpa [PyData.canLay0] using c))
  | _, _, .dK _ _, c => by simp [PyData.canLay0] at c
  | _, _, .dT _ _, c => by simp [PyData.canLay0] at c
theorem DtL.dp {K : PySem.W.Frag} {F H : Hp} (le : Same F H) : ∀ {vs : List V} {ds : List D}, DtL K F vs ds → PyData.canLayAll0 ds = true → DpAll K H vs ds
  | _, _, .nil, _ => .nil
  | _, _, .cons (d := d) (ds := ds) h t, c => by
    have c' : PyData.canLay0 d = true ∧ PyData.canLayAll0 ds = true := by simpa [PyData.canLayAll0] using c
    exact .cons (Dt.dp le h c'.1) (DtL.dp le t c'.2)
end
theorem Nw.dp {K : PySem.W.Frag} {F H : Hp} {v : V} {d : D} (h : Nw K F H v d) (le : Same F H) (c : d.canLay0 = true) : Dp K H v d := by
  rcases h with h | ⟨a, rfl, h⟩
  · exact h.dp le c
  · cases d with
    | list ds =>
      obtain ⟨xs, h1, h2⟩ := h
      exact .lst (SqL.of h1) (h2.dp le (by simpa [PyData.canLay0] using c))
    | dict es => simp [PyData.canLay0] at c
    | _ => exact h.elim

/-! ### == and != -/
def eqOk : D → D → Bool
  | .str _, .str _ => true
  | x, y => SeqAt.shaped x && SeqAt.shaped y
def gEq (x y : D) (Q : D → Prop) : Prop := eqOk x y = true ∧ Q (.bool (PyData.eqv x y))
def gNe (x y : D) (Q : D → Prop) : Prop := eqOk x y = true ∧ Q (.bool (!PyData.eqv x y))
def rEqA (K : PySem.W.Frag) : R2 := fun x y H Q => rEq x y H Q ∨ rEqD K x y H Q
def rNeA (K : PySem.W.Frag) : R2 := fun x y H Q => rNe x y H Q ∨ rNeD K x y H Q
theorem op_eqA {X : Cx} (hu : X.A.units + 64 < cLine) : OpR X (compareOp .Eq) (rEqA X.K) := OpR.or op_eq (op_eqD hu)
theorem op_neA {X : Cx} (hu : X.A.units + 64 < cLine) : OpR X (compareOp .NotEq) (rNeA X.K) := OpR.or op_ne (op_neD hu)
theorem eqOk_cases {x y : D} (h : eqOk x y = true) : (∃ a b, x = .str a ∧ y = .str b) ∨ (SeqAt.shaped x = true ∧ SeqAt.shaped y = true) := by
  unfold eqOk at h
  split at h
  · exact .inl ⟨_, _, rfl, rfl⟩
  · exact .inr (by simpa using h)
theorem str_eqv (a b : Str) : decide (V.str a = V.str b) = PyData.eqv (.str a) (.str b) := by
  show _ = (a == b)
  by_cases e : a = b
  · subst e; simp
  · rw [decide_eq_false (fun z => e (V.str.inj z))]
    exact (beq_eq_false_iff_ne.mpr e).symm
theorem rs_eq {K : PySem.W.Frag} : RSem K (rEqA K) gEq := fun {sx F H x y dx dy Q R} b hx hy hg k => by
  rcases eqOk_cases hg.1 with ⟨a, c, rfl, rfl⟩ | ⟨h1, h2⟩
  · cases hx.str; cases hy.str
    refine .inl ⟨rfl, ?_⟩
    rw [str_eqv]
    exact k.now b hg.2 (.bl _)
  · exact .inr ⟨dx, dy, hx.dp b.le (SeqAt.canLay_of_shaped h1), hy.dp b.le (SeqAt.canLay_of_shaped h2), h1, h2, k.now b hg.2 (.bl _)⟩
theorem rs_ne {K : PySem.W.Frag} : RSem K (rNeA K) gNe := fun {sx F H x y dx dy Q R} b hx hy hg k => by
  rcases eqOk_cases hg.1 with ⟨a, c, rfl, rfl⟩ | ⟨h1, h2⟩
  · cases hx.str; cases hy.str
    refine .inl ⟨rfl, ?_⟩
    rw [str_eqv]
    exact k.now b hg.2 (.bl _)
  · exact .inr ⟨dx, dy, hx.dp b.le (SeqAt.canLay_of_shaped h1), hy.dp b.le (SeqAt.canLay_of_shaped h2), h1, h2, k.now b hg.2 (.bl _)⟩
/-- in, not in: a list or a tuple of data -/
def gIn (neg : Bool) : D → D → (D → Prop) → Prop
  | x, .list ds, Q => SeqAt.shaped x = true ∧ SeqAt.shaped (.list ds) = true ∧ Q (.bool (if neg then !ds.any (fun z => PyData.eqv z x) else ds.any fun z => PyData.eqv z x))
  | _, _, _ => False
theorem rs_inL {K : PySem.W.Frag} : RSem K (rInD K) (gIn false) := fun {sx F H x y dx dy Q R} b hx hy hg k => by
  cases dy <;> first | exact hg.elim | skip
  obtain ⟨h1, h2, q⟩ := hg
  exact ⟨_, _, hx.dp b.le (SeqAt.canLay_of_shaped h1), hy.dp b.le (SeqAt.canLay_of_shaped h2), h1, h2, k.now b q (.bl _)⟩
theorem rs_notInL {K : PySem.W.Frag} : RSem K (rNotInD K) (gIn true) := fun {sx F H x y dx dy Q R} b hx hy hg k => by
  cases dy <;> first | exact hg.elim | skip
  obtain ⟨h1, h2, q⟩ := hg
  exact ⟨_, _, hx.dp b.le (SeqAt.canLay_of_shaped h1), hy.dp b.le (SeqAt.canLay_of_shaped h2), h1, h2, k.now b q (.bl _)⟩
/-- is None, is not None -/
def gIsN (neg : Bool) : D → D → (D → Prop) → Prop
  | .none, .none, Q => Q (.bool (!neg))
  | _, .none, Q => Q (.bool neg)
  | _, _, _ => False
theorem Nw.notNon {K : PySem.W.Frag} {F H : Hp} {v : V} {d : D} (h : Nw K F H v d) (hd : d ≠ .none) : v ≠ .non := by
  rintro rfl
  rcases h with h | ⟨a, e, _⟩
  · cases h; exact hd rfl
  · cases e
theorem rs_isN {K : PySem.W.Frag} : RSem K (fun x y H Q => y = .non ∧ Q (.bl (decide (x = .non))) H) (gIsN false) := fun {sx F H x y dx dy Q R} b hx hy hg k => by
  cases dy <;> first | (cases dx <;> exact hg.elim) | skip
  cases hy.none
  refine ⟨rfl, ?_⟩
  by_cases e : dx = .none
  · subst e
    cases hx.none
    exact k.now b (show Q (.bool true) from hg) (.bl _)
  · rw [decide_eq_false (hx.notNon e)]
    refine k.now b (d := .bool false) ?_ (.bl _)
    cases dx <;> first | exact absurd rfl e | exact hg
theorem rs_notN {K : PySem.W.Frag} : RSem K (fun x y H Q => y = .non ∧ Q (.bl (!decide (x = .non))) H) (gIsN true) := fun {sx F H x y dx dy Q R} b hx hy hg k => by
  cases dy <;> first | (cases dx <;> exact hg.elim) | skip
  cases hy.none
  refine ⟨rfl, ?_⟩
  by_cases e : dx = .none
  · subst e
    cases hx.none
    exact k.now b (show Q (.bool false) from hg) (.bl _)
  · rw [decide_eq_false (hx.notNon e)]
    refine k.now b (d := .bool true) ?_ (.bl _)
    cases dx <;> first | exact absurd rfl e | exact hg
/-- is True, is False -/
def gIsB (neg : Bool) : D → D → (D → Prop) → Prop
  | .bool a, .bool c, Q => Q (.bool (if neg then !decide (a = c) else decide (a = c)))
  | _, _, _ => False
theorem rs_isB {K : PySem.W.Frag} : RSem K rIsB (gIsB false) := fun {sx F H x y dx dy Q R} b hx hy hg k => by
  cases dx <;> cases dy <;> first | exact hg.elim | skip
  cases hx.bool; cases hy.bool
  exact ⟨_, _, rfl, rfl, k.now b hg (.bl _)⟩
theorem rs_notB {K : PySem.W.Frag} : RSem K rNotB (gIsB true) := fun {sx F H x y dx dy Q R} b hx hy hg k => by
  cases dx <;> cases dy <;> first | exact hg.elim | skip
  cases hx.bool; cases hy.bool
  exact ⟨_, _, rfl, rfl, k.now b hg (.bl _)⟩

/-! ### one-place operators -/
def w1 (g : D → (D → Prop) → Prop) (wa : WE) : WE := fun η Q => wa η fun x => g x Q
def gNeg : D → (D → Prop) → Prop
  | .int i, Q => Q (.int (-i))
  | _, _ => False
theorem de_neg {X : Cx} {a : Expr} {ta : TE} {wa : WE} {pos : Pos} (ha : DO X a ta wa) : DE X (.UnaryOp .USub a pos) (tUn (rU fun i => .int (-i)) ta) (w1 gNeg wa) :=
  ⟨pe_un un_neg ha.pe, fun {sx H0 F0 F σ H η Q R} r hw k => ha.sem r hw fun d v F1 H1 q e o => by
    cases d <;> first | exact q.elim | skip
    cases (o.nw (r.ext e)).int
    exact ⟨_, rfl, (k.ext e).now (r.ext e).base q (.int _)⟩⟩

/-! ### truth -/
def truth : D → Option Bool
  | .none => some false
  | .bool b => some b
  | .int i => some (i != 0)
  | .list ds => some (!ds.isEmpty)
  | .tuple ds => some (!ds.isEmpty)
  | _ => none
theorem truth_ok {K : PySem.W.Frag} {sx : Sx} {F H : Hp} {v : V} {d : D} {k : Bool} (b : Base sx F H) (h : Nw K F H v d) (e : truth d = some k) : TruV K v H k := by
  cases d with
  | none => cases h.none; cases e; rfl
  | bool c => cases h.bool; cases e; rfl
  | int i => cases h.int; cases e; rfl
  | str x => cases e
  | list ds =>
    obtain ⟨a, xs, rfl, h1, h2⟩ := h.list b.le
    cases e
    refine .inl ⟨xs, SqL.of h1, ?_⟩
    cases h2 <;> rfl
  | tuple ds =>
    obtain ⟨a, xs, rfl, h1, h2⟩ := h.tupleH b.le
    cases e
    refine .inr (.inl ⟨xs, h1, ?_⟩)
    cases h2 <;> rfl
  | dict es => cases e
/-- an expression as a test -/
def wTr (wa : WE) : WT := fun η Q => wa η fun d => ∃ k, truth d = some k ∧ Q k
def wTrB (wa : WE) : WT := fun η Q => wa η fun d => match d with
  | .bool k => Q k
  | _ => False
section
variable {X : Cx} {a b c : Expr} {ta tb tc : TE} {wa wb wc : WE} {tA tB' tC' : TT} {vA vB vC : WT} {pos : Pos} {rest : List Expr}
theorem dt_truth (ha : DO X a ta wa) (he : ∀ whole, isTrue a X.env whole = (do let v ← whole; standAt a.pos; holding [v] (truthy v)) := by intro _; rfl) : DTs X a (fun σ H Q => ta σ H fun x H' => ∃ k, TruV X.K x H' k ∧ Q k H') (wTr wa) :=
  ⟨pt_truth ha.pe he, fun {sx H0 F0 F σ H η Q R} r hw k => ha.sem r hw fun d v F1 H1 ⟨j, hj, q⟩ e o => ⟨j, truth_ok (r.ext e).base (o.nw (r.ext e)) hj, k j F1 H1 q e⟩⟩
theorem sem_testB {K : PySem.W.Frag} (ha : SemE K ta wa) : SemT K (fun σ H Q => ta σ H fun x H' => ∃ k, x = .bl k ∧ Q k H') (wTrB wa) := fun {sx H0 F0 F σ H η Q R} r hw k => ha r hw fun d v F1 H1 q e o => by
  cases d <;> first | exact q.elim | skip
  cases o
  exact ⟨_, rfl, k _ F1 H1 q e⟩
theorem dt_cmp {op : CmpOp} {r : R2} {g : D → D → (D → Prop) → Prop} (ho : OpR X (compareOp op) r) (hs : RSem X.K r g) (hm : behindInMarks op b = false) (ha : DO X a ta wa) (hb : DO X b tb wb) : DTs X (.Compare a [op] [b] pos) (tTest (tOp r ta tb)) (wTrB (w2 g wa wb)) :=
  ⟨pt_cmpR ho ha.pe hb.pe hm, sem_testB (sem_op hs ha.sem hb.sem)⟩
/-- a op b op' c -/
def wChain (g g' : D → D → (D → Prop) → Prop) (wa wb wc : WE) : WE := fun η Q => wa η fun x => wb η fun y => g x y fun z => match z with
  | .bool true => wc η fun w => g' y w Q
  | .bool false => Q (.bool false)
  | _ => False
theorem sem_chain {K : PySem.W.Frag} {r r' : R2} {g g' : D → D → (D → Prop) → Prop} (hs : RSem K r g) (hs' : RSem K r' g') (ha : SemO K ta wa) (hb : SemO K tb wb) (hc : SemO K tc wc) : SemE K (tChain r r' ta tb tc) (wChain g g' wa wb wc) := fun {sx H0 F0 F σ H η Q R} rp hw k =>
  ha rp hw fun dx x F1 H1 q1 e1 o1 => hb (rp.ext e1) q1 fun dy y F2 H2 q2 e2 o2 =>
    let r2 := (rp.ext e1).ext e2
    hs r2.base ((o1.mono e2.sF).nw r2) (o2.nw r2) q2 fun dz z F3 H3 q3 e3 o3 => by
      cases dz <;> first | exact q3.elim | skip
      rename_i bb
      cases o3
      refine ⟨bb, rfl, ?_⟩
      cases bb with
      | false =>
        rw [if_neg Bool.false_ne_true]
        exact (k.ext ((e1.trans e2).trans e3)).now (r2.ext e3).base q3 (.bl _)
      | true =>
        rw [if_pos rfl]
        refine hc (r2.ext e3) q3 fun dw w F4 H4 q4 e4 o4 => ?_
        have r4 := (r2.ext e3).ext e4
        exact hs' r4.base ((o2.mono (e3.sF.trans e4.sF)).nw r4) (o4.nw r4) q4 (k.ext (((e1.trans e2).trans e3).trans e4))
theorem de_chain {op op' : CmpOp} {r r' : R2} {g g' : D → D → (D → Prop) → Prop} (ho : OpR X (compareOp op) r) (hs : RSem X.K r g) (ho' : OpR X (compareOp op') r') (hs' : RSem X.K r' g') (ha : DO X a ta wa) (hb : DO X b tb wb) (hc : DO X c tc wc)
    (hm : lastMarks [op, op'] [b, c] = false := by with_unfolding_all rfl) : DE X (.Compare a [op, op'] [b, c] pos) (tChain r r' ta tb tc) (wChain g g' wa wb wc) := ⟨pe_chain ho ho' ha.pe hb.pe hc.pe hm, sem_chain hs hs' ha.sem hb.sem hc.sem⟩
theorem dt_chain {op op' : CmpOp} {r r' : R2} {g g' : D → D → (D → Prop) → Prop} (ho : OpR X (compareOp op) r) (hs : RSem X.K r g) (ho' : OpR X (compareOp op') r') (hs' : RSem X.K r' g') (ha : DO X a ta wa) (hb : DO X b tb wb) (hc : DO X c tc wc)
    (hm : lastMarks [op, op'] [b, c] = false := by with_unfolding_all rfl) : DTs X (.Compare a [op, op'] [b, c] pos) (tTest (tChain r r' ta tb tc)) (wTrB (wChain g g' wa wb wc)) := ⟨pt_chain ho ho' ha.pe hb.pe hc.pe hm, sem_testB (sem_chain hs hs' ha.sem hb.sem hc.sem)⟩
def wNotT (vA : WT) : WT := fun η Q => vA η fun b => Q (!b)
theorem dt_not (ha : DTs X a tA vA) : DTs X (.UnaryOp .Not a pos) (tNot tA) (wNotT vA) := ⟨pt_not ha.pt, fun r hw k => ha.sem r hw fun b F1 H1 q e => k (!b) F1 H1 q e⟩
def wAndT (vA vB : WT) : WT := fun η Q => vA η fun b => if b = true then vB η Q else Q false
def wOrT (vA vB : WT) : WT := fun η Q => vA η fun b => if b = true then Q true else vB η Q
theorem dw_and1 (ha : DTs X a tA vA) : DW X (.BoolOp .And [a] pos) tA vA := ⟨pw_and1 ha.pt, ha.sem⟩
theorem dw_or1 (ha : DTs X a tA vA) : DW X (.BoolOp .Or [a] pos) tA vA := ⟨pw_or1 ha.pt, ha.sem⟩
theorem dw_and (ha : DTs X a tA vA) (hb : DW X (.BoolOp .And (b :: rest) pos) tB' vB) : DW X (.BoolOp .And (a :: b :: rest) pos) (tAnd tA tB') (wAndT vA vB) :=
  ⟨pw_and ha.pt hb.pw, fun r hw k => ha.sem r hw fun b F1 H1 q e => by
    cases b with
    | true => rw [if_pos rfl] at q ⊢; exact hb.sem (r.ext e) q (k.ext e)
    | false => rw [if_neg Bool.false_ne_true] at q ⊢; exact k false F1 H1 q e⟩
theorem dw_or (ha : DTs X a tA vA) (hb : DW X (.BoolOp .Or (b :: rest) pos) tB' vB) : DW X (.BoolOp .Or (a :: b :: rest) pos) (tOr tA tB') (wOrT vA vB) :=
  ⟨pw_or ha.pt hb.pw, fun r hw k => ha.sem r hw fun b F1 H1 q e => by
    cases b with
    | true => rw [if_pos rfl] at q ⊢; exact k true F1 H1 q e
    | false => rw [if_neg Bool.false_ne_true] at q ⊢; exact hb.sem (r.ext e) q (k.ext e)⟩
theorem DW.t (h : DW X a tA vA) : DTs X a tA vA := ⟨h.pw.pt, h.sem⟩
def wIfE (vA : WT) (wa wb : WE) : WE := fun η Q => vA η fun b => if b = true then wa η Q else wb η Q
theorem de_ifExp (hc : DTs X c tA vA) (ha : DE X a ta wa) (hb : DE X b tb wb) : DE X (.IfExp c a b pos) (tIf tA ta tb) (wIfE vA wa wb) :=
  ⟨pe_ifExp hc.pt ha.pe hb.pe, fun r hw k => hc.sem r hw fun b F1 H1 q e => by
    cases b with
    | true => rw [if_pos rfl] at q ⊢; exact ha.sem (r.ext e) q (k.ext e)
    | false => rw [if_neg Bool.false_ne_true] at q ⊢; exact hb.sem (r.ext e) q (k.ext e)⟩
/-- and, or, not as values: all but the last are True or False -/
def wAndV (wa wb : WE) : WE := fun η Q => wa η fun d => match d with
  | .bool true => wb η Q
  | .bool false => Q (.bool false)
  | _ => False
def wOrV (wa wb : WE) : WE := fun η Q => wa η fun d => match d with
  | .bool true => Q (.bool true)
  | .bool false => wb η Q
  | _ => False
theorem de_one {op} (h : DE X a ta wa) : DE X (.BoolOp op [a] pos) ta wa := ⟨pe_one h.pe, h.sem⟩
theorem de_and (ha : DE X a ta wa) (hb : DE X (.BoolOp .And (b :: rest) pos) tb wb) : DE X (.BoolOp .And (a :: b :: rest) pos) (tAndV ta tb) (wAndV wa wb) :=
  ⟨pe_and ha.pe hb.pe, fun r hw k => ha.sem r hw fun d v F1 H1 q e h => by
    cases d <;> first | exact q.elim | skip
    rename_i bb
    cases h
    refine ⟨bb, rfl, ?_⟩
    cases bb with
    | true => rw [if_pos rfl]; exact hb.sem (r.ext e) q (k.ext e)
    | false => rw [if_neg Bool.false_ne_true]; exact (k.ext e).now (r.ext e).base q (.bl _)⟩
theorem de_or (ha : DE X a ta wa) (hb : DE X (.BoolOp .Or (b :: rest) pos) tb wb) : DE X (.BoolOp .Or (a :: b :: rest) pos) (tOrV ta tb) (wOrV wa wb) :=
  ⟨pe_or ha.pe hb.pe, fun r hw k => ha.sem r hw fun d v F1 H1 q e h => by
    cases d <;> first | exact q.elim | skip
    rename_i bb
    cases h
    refine ⟨bb, rfl, ?_⟩
    cases bb with
    | true => rw [if_pos rfl]; exact (k.ext e).now (r.ext e).base q (.bl _)
    | false => rw [if_neg Bool.false_ne_true]; exact hb.sem (r.ext e) q (k.ext e)⟩
def gNotB : D → (D → Prop) → Prop
  | .bool b, Q => Q (.bool (!b))
  | _, _ => False
theorem de_not (ha : DE X a ta wa) : DE X (.UnaryOp .Not a pos) (tNotV ta) (w1 gNotB wa) :=
  ⟨pe_not ha.pe, fun r hw k => ha.sem r hw fun d v F1 H1 q e h => by
    cases d <;> first | exact q.elim | skip
    cases h
    exact ⟨_, rfl, (k.ext e).now (r.ext e).base q (.bl _)⟩⟩
end

/-! ### rows of values -/
def wNil : WA := fun _ Q => Q []
def wCons (wa : WE) (wr : WA) : WA := fun η Q => wa η fun d => wr η fun ds => Q (d :: ds)
section
variable {X : Cx} {e : Expr} {es : List Expr} {te : TE} {t : TA} {we : WE} {w : WA} {pos : Pos}
theorem da_nil : DA X [] tNil wNil := ⟨pa_nil, fun r hw k => k [] [] _ _ hw (.refl r.base) .nil⟩
theorem da_cons (h : DO X e te we) (hr : DA X es t w) (hs : starEach (e :: es) X.env = (false, eval e X.env) :: starEach es X.env := by rfl) : DA X (e :: es) (tCons te t) (wCons we w) :=
  ⟨pa_cons h.pe hr.pa hs, fun r hw k => h.sem r hw fun d v F1 H1 q e o => hr.sem (r.ext e) q fun ds vs F2 H2 q2 e2 o2 => k _ _ F2 H2 q2 (e.trans e2) (.cons (o.mono e2.sF) o2)⟩
theorem db_nil : DB X [] tNil wNil := ⟨pa_nil, fun r hw k => k [] [] _ _ hw (.refl r.base) .nil⟩
theorem db_cons (h : DE X e te we) (hr : DB X es t w) (hs : starEach (e :: es) X.env = (false, eval e X.env) :: starEach es X.env := by rfl) : DB X (e :: es) (tCons te t) (wCons we w) :=
  ⟨pa_cons h.pe hr.pa hs, fun r hw k => h.sem r hw fun d v F1 H1 q e o => hr.sem (r.ext e) q fun ds vs F2 H2 q2 e2 o2 => k _ _ F2 H2 q2 (e.trans e2) (.cons (o.mono e2.sF) o2)⟩
/-- displays -/
def wTup (w : WA) : WE := fun η Q => w η fun ds => ds.length ≤ sizeLine ∧ Q (.tuple ds)
def wLst (w : WA) : WE := fun η Q => w η fun ds => ds.length ≤ sizeLine ∧ Q (.list ds)
theorem de_tup {x1} (h : DB X es t w) : DE X (.Tuple es x1 pos) (tTup t) (wTup w) :=
  ⟨pe_tup h.pa, fun r hw k => h.sem r hw fun ds vs F1 H1 q e o => ⟨by rw [o.length]; exact q.1, (k.ext e).tup (r.ext e).base q.2 o⟩⟩
theorem dl_lst (h : DB X es t w) : DL X (.List es pos) (tLst t) (wLst w) :=
  ⟨pe_lst h.pa, fun r hw k => h.sem r hw fun ds vs F1 H1 q e o => ⟨by rw [o.length]; exact q.1, (k.ext e).new (r.ext e).base q.2 o⟩⟩
end
end W2

set_option Elab.async false
set_option linter.all false
set_option maxRecDepth 100000
/-! W2D: targets, what is walked, comprehensions. -/
namespace W2
open PySem PySem.Spec PyProof.Rows L2

/-! ### slots set, forgotten -/
def wipeE (η : En) : List Nat → En
  | [] => η
  | v :: vs => (wipeE η vs).set v .un
section
variable {K : PySem.W.Frag} {sx : Sx} {H0 F0 F H F1 H1 : Hp} {σ : L2.St} {η : En}
theorem Rep.setU (r : Rep K sx H0 F0 F σ H η) (i : Nat) (x : Option V) : Rep K sx H0 F0 F (σ.set i x) H (η.set i .un) where
  base := r.base
  s0 := r.s0
  f0 := r.f0
  fr := r.fr
  len := by rw [List.length_set, List.length_set]; exact r.len
  sl := fun j s v h1 h2 => by
    by_cases e : i = j
    · subst e
      have hi : i < η.length := by have := (List.getElem?_eq_some_iff.mp h1).1; simpa using this
      rw [List.getElem?_set_self hi] at h1
      cases h1
      trivial
    · rw [List.getElem?_set_ne e] at h1 h2
      exact r.sl j s v h1 h2
  sep := fun j k d e a h1 h2 h3 h4 => by
    by_cases e1 : i = j
    · subst e1
      have hi : i < η.length := by have := (List.getElem?_eq_some_iff.mp h1).1; simpa using this
      rw [List.getElem?_set_self hi] at h1; cases h1
    by_cases e2 : i = k
    · subst e2
      have hi : i < η.length := by have := (List.getElem?_eq_some_iff.mp h2).1; simpa using this
      rw [List.getElem?_set_self hi] at h2; cases h2
    rw [List.getElem?_set_ne e1] at h1 h3
    rw [List.getElem?_set_ne e2] at h2 h4
    exact r.sep j k d e a h1 h2 h3 h4
theorem Rep.setFz (r : Rep K sx H0 F0 F σ H η) (i : Nat) {v : V} {d : D} (h : Dt K F v d) : Rep K sx H0 F0 F (σ.set i (some v)) H (η.set i (.fz d)) where
  base := r.base
  s0 := r.s0
  f0 := r.f0
  fr := r.fr
  len := by rw [List.length_set, List.length_set]; exact r.len
  sl := fun j s x h1 h2 => by
    by_cases e : i = j
    · subst e
      have hi : i < η.length := by have := (List.getElem?_eq_some_iff.mp h1).1; simpa using this
      have hi' : i < σ.length := by rw [← r.len]; exact hi
      rw [List.getElem?_set_self hi] at h1
      rw [List.getElem?_set_self hi'] at h2
      cases h1; cases h2
      exact ⟨v, rfl, h⟩
    · rw [List.getElem?_set_ne e] at h1 h2
      exact r.sl j s x h1 h2
  sep := fun j k d e a h1 h2 h3 h4 => by
    by_cases e1 : i = j
    · subst e1
      have hi : i < η.length := by have := (List.getElem?_eq_some_iff.mp h1).1; simpa using this
      rw [List.getElem?_set_self hi] at h1; cases h1
    by_cases e2 : i = k
    · subst e2
      have hi : i < η.length := by have := (List.getElem?_eq_some_iff.mp h2).1; simpa using this
      rw [List.getElem?_set_self hi] at h2; cases h2
    rw [List.getElem?_set_ne e1] at h1 h3
    rw [List.getElem?_set_ne e2] at h2 h4
    exact r.sep j k d e a h1 h2 h3 h4
/-- a new object at a slot; r: as it stood ahead of the object -/
theorem Rep.setOw (r : Rep K sx H0 F0 F σ H η) (e : Ext2 sx F H F1 H1) (i : Nat) {a : Addr} {d : D} (ho : OwnAt K F1 H1 a d) (hf : F1 a = none) (hn : H a = none) : Rep K sx H0 F0 F1 (σ.set i (some (.ref a))) H1 (η.set i (.ow d)) :=
  let r1 := r.ext e
  have nx : ¬ inSx sx a := fun z => by obtain ⟨o, q⟩ := r.base.ok.there z; rw [hn] at q; cases q
  have h0 : H0 a = none := by
    cases q : H0 a with
    | none => rfl
    | some o => rw [r.s0 a o q nx] at hn; cases hn
  { base := r1.base, s0 := r1.s0, f0 := r1.f0, fr := r1.fr, len := by rw [List.length_set, List.length_set]; exact r.len,
    sl := fun j s x h1 h2 => by
      by_cases e : i = j
      · subst e
        have hi : i < η.length := by have := (List.getElem?_eq_some_iff.mp h1).1; simpa using this
        have hi' : i < σ.length := by rw [← r.len]; exact hi
        rw [List.getElem?_set_self hi] at h1
        rw [List.getElem?_set_self hi'] at h2
        cases h1; cases h2
        exact ⟨a, rfl, ho, hf, h0, nx⟩
      · rw [List.getElem?_set_ne e] at h1 h2
        exact r1.sl j s x h1 h2,
    sep := fun j k d' e' b h1 h2 h3 h4 => by
      have old : ∀ (m : Nat) (d : D), η[m]? = some (.ow d) → σ[m]? = some (some (.ref b)) → ∃ o, H b = some o := fun m d z1 z2 => by
        obtain ⟨a', e1, ho', _⟩ := r.sl m _ _ z1 z2
        cases e1
        exact ho'.there
      have self : ∀ (m : Nat), i = m → (η.set i (.ow d))[m]? = some (.ow d) → (σ.set i (some (V.ref a)))[m]? = some (some (.ref b)) → b = a := fun m e z1 z2 => by
        subst e
        have hi : i < η.length := by have := (List.getElem?_eq_some_iff.mp z1).1; simpa using this
        have hi' : i < σ.length := by rw [← r.len]; exact hi
        rw [List.getElem?_set_self hi'] at z2
        cases z2; rfl
      by_cases e1 : i = j
      · by_cases e2 : i = k
        · rw [← e1, e2]
        · exfalso
          subst e1
          have hi : i < η.length := by have := (List.getElem?_eq_some_iff.mp h1).1; simpa using this
          have hi' : i < σ.length := by rw [← r.len]; exact hi
          rw [List.getElem?_set_self hi'] at h3
          cases h3
          rw [List.getElem?_set_ne e2] at h2 h4
          obtain ⟨o, q⟩ := old k e' h2 h4
          rw [hn] at q; cases q
      · by_cases e2 : i = k
        · exfalso
          subst e2
          have hi : i < η.length := by have := (List.getElem?_eq_some_iff.mp h2).1; simpa using this
          have hi' : i < σ.length := by rw [← r.len]; exact hi
          rw [List.getElem?_set_self hi'] at h4
          cases h4
          rw [List.getElem?_set_ne e1] at h1 h3
          obtain ⟨o, q⟩ := old j d' h1 h3
          rw [hn] at q; cases q
        · rw [List.getElem?_set_ne e1] at h1 h3
          rw [List.getElem?_set_ne e2] at h2 h4
          exact r.sep j k d' e' b h1 h2 h3 h4 }
theorem Rep.wipe (r : Rep K sx H0 F0 F σ H η) : ∀ vs : List Nat, Rep K sx H0 F0 F (L2.wipe σ vs) H (wipeE η vs)
  | [] => r
  | v :: vs => (r.wipe vs).setU v none
end
theorem wipe_set {σ : L2.St} {i : Nat} {x : Option V} : ∀ {vs : List Nat}, i ∈ vs → L2.wipe (σ.set i x) vs = L2.wipe σ vs
  | [], h => by cases h
  | v :: vs, h => by
    show (L2.wipe (σ.set i x) vs).set v none = (L2.wipe σ vs).set v none
    by_cases hi : i ∈ vs
    · rw [wipe_set hi]
    · have e : i = v := by rcases List.mem_cons.mp h with h | h; exact h; exact absurd h hi
      subst e
      have : ∀ (ws : List Nat), i ∉ ws → L2.wipe (σ.set i x) ws = (L2.wipe σ ws).set i x := by
        intro ws
        induction ws with
        | nil => intro _; rfl
        | cons u us ih =>
          intro hn
          have h1 : i ≠ u := fun z => hn (by rw [z]; exact List.mem_cons_self)
          have h2 : i ∉ us := fun z => hn (List.mem_cons_of_mem _ z)
          show (L2.wipe (σ.set i x) us).set u none = ((L2.wipe σ us).set u none).set i x
          rw [ih h2, List.set_comm _ _ h1]
      rw [this vs hi, List.set_set]

/-! ### targets -/
abbrev WG := D → En → (En → Prop) → Prop
abbrev WGs := List D → En → (En → Prop) → Prop
/-- L: the slots that the target stores -/
def SemG (K : PySem.W.Frag) (g : TG) (w : WG) (L : List Nat) : Prop := ∀ {sx : Sx} {H0 F0 F : Hp} {σ : L2.St} {H : Hp} {η : En} {v : V} {d : D} {Q : En → Prop} {R : L2.St → Hp → Prop}, Rep K sx H0 F0 F σ H η → Dt K F v d → w d η Q →
  (∀ σ' η', Q η' → Rep K sx H0 F0 F σ' H η' → (∀ vs, (∀ i ∈ L, i ∈ vs) → L2.wipe σ' vs = L2.wipe σ vs) → R σ' H) → g v σ H R
def SemGs (K : PySem.W.Frag) (g : TGs) (w : WGs) (L : List Nat) : Prop := ∀ {sx : Sx} {H0 F0 F : Hp} {σ : L2.St} {H : Hp} {η : En} {v : List V} {d : List D} {Q : En → Prop} {R : L2.St → Hp → Prop}, Rep K sx H0 F0 F σ H η → DtL K F v d → w d η Q →
  (∀ σ' η', Q η' → Rep K sx H0 F0 F σ' H η' → (∀ vs, (∀ i ∈ L, i ∈ vs) → L2.wipe σ' vs = L2.wipe σ vs) → R σ' H) → g v σ H R
structure DG (X : Cx) (tg : Expr) (g : TG) (w : WG) (L : List Nat) : Prop where
  pg : PG X tg g
  sem : SemG X.K g w L
structure DGs (X : Cx) (tg : List Expr) (g : TGs) (w : WGs) (L : List Nat) : Prop where
  pg : PGs X tg g
  sem : SemGs X.K g w L
def wGn (i : Nat) : WG := fun d η Q => Q (η.set i (.fz d))
def wGnil : WGs := fun ds η Q => match ds with
  | [] => Q η
  | _ => False
def wGcons (g : WG) (gs : WGs) : WGs := fun ds η Q => match ds with
  | [] => False
  | d :: r => g d η fun η1 => gs r η1 Q
def wGt (n : Nat) (gs : WGs) : WG := fun d η Q => match d with
  | .tuple ds => ds.length = n ∧ gs ds η Q
  | .list ds => ds.length = n ∧ gs ds η Q
  | _ => False
theorem PG.or {X : Cx} {tg : Expr} {g g' : TG} (h : PG X tg g) (h' : PG X tg g') : PG X tg (fun v σ H Q => g v σ H Q ∨ g' v σ H Q) := ⟨fun pins s σ H v u Q I r hw => by
  rcases hw with hw | hw
  · exact h.run pins s σ H v u Q I r hw
  · exact h'.run pins s σ H v u Q I r hw⟩
section
variable {X : Cx}
theorem sem_gname {K : PySem.W.Frag} {i : Nat} : SemG K (gName i) (wGn i) [i] := fun r h hw k => k _ _ hw (r.setFz i h) fun vs hv => wipe_set (hv i (by simp))
theorem dg_name (i : Nat) {x : Str} {pos : Pos} (hN : X.N.Nodup) (hi : X.N[i]? = some x := by rfl) (hx : Loc X.env.scope x := by first | exact Or.inl rfl | exact Or.inr rfl) (hf : X.fn x = true ∨ X.env.scope.names.lookup x = some .local := by first | exact .inl rfl | exact .inr rfl) : DG X (.Name x pos) (gName i) (wGn i) [i] :=
  ⟨pg_name hN hi hx hf, sem_gname⟩
theorem dgs_nil : DGs X [] gNil wGnil [] := ⟨pgs_nil, fun {sx H0 F0 F σ H η v d Q R} r h hw k => by
  cases h with
  | nil => exact ⟨rfl, k _ _ hw r fun vs _ => rfl⟩
  | cons _ _ => exact hw.elim⟩
theorem dgs_cons {e : Expr} {es : List Expr} {t : TG} {u : TGs} {w : WG} {ws : WGs} {L Ls : List Nat} (h1 : DG X e t w L) (h2 : DGs X es u ws Ls)
    (hs : (assignEach (e :: es) X.env).map (·.2) = assign e X.env :: (assignEach es X.env).map (·.2) := by rfl) : DGs X (e :: es) (gCons t u) (wGcons w ws) (L ++ Ls) :=
  ⟨pgs_cons h1.pg h2.pg hs, fun {sx H0 F0 F σ H η v d Q R} r h hw k => by
    cases h with
    | nil => exact hw.elim
    | cons ha ht => exact ⟨_, _, rfl, h1.sem r ha hw fun σ1 η1 q1 r1 w1 => h2.sem r1 ht q1 fun σ2 η2 q2 r2 w2 => k _ _ q2 r2 fun vs hv => (w2 vs fun i hi => hv i (List.mem_append_right _ hi)).trans (w1 vs fun i hi => hv i (List.mem_append_left _ hi))⟩⟩
theorem dg_tup {es : List Expr} {k : Nat} {t : TGs} {n : Nat} {pos : Pos} {ws : WGs} {L : List Nat} (hc : X.calm = true) (h : DGs X es t ws L)
    (hn : (assignEach es X.env).length = n := by rfl) (hst : (assignEach es X.env).findIdx? (·.1) = none := by rfl) : DG X (.Tuple es k pos) (fun v σ H Q => gTup X.K n t v σ H Q ∨ gUnl X.K n t v σ H Q) (wGt n ws) L :=
  ⟨PG.or (pg_tup hc h.pg hn hst) (pg_unl hc h.pg hn hst), fun {sx H0 F0 F σ H η v d Q R} r hd hw k => by
    cases d <;> first | exact hw.elim | skip
    · cases hd with
      | lst h1 h2 => exact .inr ⟨_, _, rfl, SqL.of (r.base.le _ _ h1), by rw [h2.length]; exact hw.1, h.sem r h2 hw.2 k⟩
    · cases hd with
      | tup h1 h2 => exact .inl ⟨_, _, rfl, SqT.of (r.base.le _ _ h1), by rw [h2.length]; exact hw.1, h.sem r h2 hw.2 k⟩⟩
end

/-! ### what is walked -/
abbrev WI := En → (List D → Prop) → Prop
/-- the items are ds, whatever grows meanwhile -/
structure ItOk (K : PySem.W.Frag) (sx : Sx) (F : Hp) (J : It) (ds : List D) : Prop where
  go : ∀ {F' H' : Hp} {i : Nat}, Same F F' → Base sx F' H' → i < ds.length → J.go i H'
  yld : ∀ {F' H' H'' : Hp} {i : Nat} {x : V} {d : D}, Same F F' → Base sx F' H' → ds[i]? = some d → J.yld i H' x H'' → ∃ F'', Ext2 sx F' H' F'' H'' ∧ Dt K F'' x d
  stop : ∀ {F' H' : Hp}, Same F F' → Base sx F' H' → J.stop ds.length H'
theorem ItOk.mono {K : PySem.W.Frag} {sx : Sx} {F F1 : Hp} {J : It} {ds : List D} (h : ItOk K sx F J ds) (e : Same F F1) : ItOk K sx F1 J ds := ⟨fun s b l => h.go (e.trans s) b l, fun s b l y => h.yld (e.trans s) b l y, fun s b => h.stop (e.trans s) b⟩
def ContI (K : PySem.W.Frag) (sx : Sx) (F H : Hp) (Q : List D → Prop) (R : It → Hp → Prop) : Prop := ∀ ds J F' H', Q ds → Ext2 sx F H F' H' → ItOk K sx F' J ds → R J H'
def SemI (K : PySem.W.Frag) (t : TI) (w : WI) : Prop := ∀ {sx : Sx} {H0 F0 F : Hp} {σ : L2.St} {H : Hp} {η : En} {Q : List D → Prop} {R : It → Hp → Prop}, Rep K sx H0 F0 F σ H η → w η Q → ContI K sx F H Q R → t σ H R
structure DI (X : Cx) (tg iter : Expr) (t : TI) (w : WI) : Prop where
  pi : PI X tg iter t
  sem : SemI X.K t w
theorem PI.or {X : Cx} {tg e : Expr} {t t' : TI} (h : PI X tg e t) (h' : PI X tg e t') : PI X tg e (fun σ H R => t σ H R ∨ t' σ H R) := ⟨fun pins s σ H R I hw => by
  rcases hw with hw | hw
  · exact h.run pins s σ H R I hw
  · exact h'.run pins s σ H R I hw⟩
theorem it_list {K : PySem.W.Frag} {sx : Sx} {F : Hp} {a : Addr} {xs : List V} {ds : List D} (h : F a = some (.lst xs)) (hd : DtL K F xs ds) : ItOk K sx F (Itl K a) ds where
  go := fun {F' H' i} s b hi => ⟨xs, xs[i]'(by rw [hd.length]; exact hi), SqL.of (b.le _ _ (s _ _ h)), List.getElem?_eq_getElem _⟩
  yld := fun {F' H' H'' i x d} s b hi y => by
    obtain ⟨rfl, f⟩ := y
    obtain ⟨v, hv, dv⟩ := hd.get i hi
    have e := f xs (SqL.of (b.le _ _ (s _ _ h)))
    rw [hv] at e
    cases e
    exact ⟨F', .refl b, dv.mono s⟩
  stop := fun {F' H'} s b => ⟨xs, SqL.of (b.le _ _ (s _ _ h)), by rw [hd.length]; exact Nat.le_refl _⟩
theorem it_tup {K : PySem.W.Frag} {sx : Sx} {F : Hp} {a : Addr} {xs : List V} {ds : List D} (h : F a = some (.tup xs)) (hd : DtL K F xs ds) : ItOk K sx F (Itt K a) ds where
  go := fun {F' H' i} s b hi => ⟨xs, xs[i]'(by rw [hd.length]; exact hi), SqT.of (b.le _ _ (s _ _ h)), List.getElem?_eq_getElem _⟩
  yld := fun {F' H' H'' i x d} s b hi y => by
    obtain ⟨rfl, f⟩ := y
    obtain ⟨v, hv, dv⟩ := hd.get i hi
    have e := f xs (SqT.of (b.le _ _ (s _ _ h)))
    rw [hv] at e
    cases e
    exact ⟨F', .refl b, dv.mono s⟩
  stop := fun {F' H'} s b => ⟨xs, SqT.of (b.le _ _ (s _ _ h)), by rw [hd.length]; exact Nat.le_refl _⟩
/-- the keys, frozen: their tuples are so from now on -/
theorem DtK.key {K : PySem.W.Frag} {F : Hp} : ∀ {kvs : List (Key × V)} {es : List (D × D)} (i : Nat) {k : Key} {v : V}, DtK K F kvs es → kvs[i]? = some (k, v) → ∃ d, es[i]? = some (kD k, d) ∧ Dt K F v d
  | _, _, _, _, _, .nil, e => by simp at e
  | _, _, 0, _, _, .cons h _, e => by
    simp at e
    obtain ⟨rfl, rfl⟩ := e
    exact ⟨_, rfl, h⟩
  | _, _, i + 1, _, _, .cons _ t, e => by
    obtain ⟨d, h1, h2⟩ := t.key i (by simpa using e)
    exact ⟨d, by simpa using h1, h2⟩
theorem DtT.key {K : PySem.W.Frag} {F : Hp} : ∀ {kvs : List (List Key × V)} {es : List (D × D)} (i : Nat) {k : List Key} {v : V}, DtT K F kvs es → kvs[i]? = some (k, v) → ∃ d, es[i]? = some (.tuple (k.map kD), d) ∧ Dt K F v d
  | _, _, _, _, _, .nil, e => by simp at e
  | _, _, 0, _, _, .cons h _, e => by
    simp at e
    obtain ⟨rfl, rfl⟩ := e
    exact ⟨_, rfl, h⟩
  | _, _, i + 1, _, _, .cons _ t, e => by
    obtain ⟨d, h1, h2⟩ := t.key i (by simpa using e)
    exact ⟨d, by simpa using h1, h2⟩
theorem DtK.length {K : PySem.W.Frag} {F : Hp} : ∀ {kvs : List (Key × V)} {es : List (D × D)}, DtK K F kvs es → kvs.length = es.length
  | _, _, .nil => rfl
  | _, _, .cons _ t => congrArg (· + 1) t.length
theorem DtT.length {K : PySem.W.Frag} {F : Hp} : ∀ {kvs : List (List Key × V)} {es : List (D × D)}, DtT K F kvs es → kvs.length = es.length
  | _, _, .nil => rfl
  | _, _, .cons _ t => congrArg (· + 1) t.length
/-- a tuple of keys that stands in the heap is frozen from now on -/
theorem Ext2.keyTup {sx : Sx} {F H : Hp} (b : Base sx F H) {q : Addr} {xs : List V} (h : H q = some (.tup xs)) : Ext2 sx F H (upd F q (.tup xs)) H where
  sF := fun c u e => by
    by_cases z : c = q
    · subst z
      have e1 := b.le _ _ e
      rw [h] at e1
      cases e1
      rw [upd_same]
    · rw [upd_ne z]; exact e
  sH := fun _ _ e _ => e
  le := fun c u e => by
    by_cases z : c = q
    · subst z; rw [upd_same] at e; cases e; exact h
    · rw [upd_ne z] at e; exact b.le _ _ e
  fr := fun c u e => by
    by_cases z : c = q
    · subst z; rw [upd_same] at e; cases e; exact .inr (.inr ⟨_, rfl⟩)
    · rw [upd_ne z] at e; exact .inl e
  ok := b.ok
theorem it_keysK {K : PySem.W.Frag} {sx : Sx} {F : Hp} {a : Addr} {o : Obj} {kvs : List (Key × V)} {es : List (D × D)} (h : F a = some (.frz o (.dK kvs))) (hd : DtK K F kvs es) : ItOk K sx F (Itk a o kvs) (es.map (·.1)) where
  go := fun {F' H' i} s b hi => ⟨b.le _ _ (s _ _ h), by rw [hd.length]; simpa using hi⟩
  yld := fun {F' H' H'' i x d} s b hi y => by
    obtain ⟨rfl, k, v, hk, rfl⟩ := y
    obtain ⟨d', h1, _⟩ := hd.key i hk
    rw [List.getElem?_map, h1] at hi
    cases hi
    exact ⟨F', .refl b, .key k⟩
  stop := fun {F' H'} s b => ⟨b.le _ _ (s _ _ h), by rw [hd.length]; simp⟩
theorem it_keysT {K : PySem.W.Frag} {sx : Sx} {F : Hp} {a : Addr} {o : Obj} {kvs : List (List Key × V)} {es : List (D × D)} (h : F a = some (.frz o (.dT kvs))) (hd : DtT K F kvs es) : ItOk K sx F (Itkt a o kvs) (es.map (·.1)) where
  go := fun {F' H' i} s b hi => ⟨b.le _ _ (s _ _ h), by rw [hd.length]; simpa using hi⟩
  yld := fun {F' H' H'' i x d} s b hi y => by
    obtain ⟨rfl, k, v, q, hk, rfl, hq⟩ := y
    obtain ⟨d', h1, _⟩ := hd.key i hk
    rw [List.getElem?_map, h1] at hi
    cases hi
    exact ⟨_, .keyTup b hq, .tup upd_same (.keys k)⟩
  stop := fun {F' H'} s b => ⟨b.le _ _ (s _ _ h), by rw [hd.length]; simp⟩
/-- a list, a tuple, a dict's keys -/
def wItems (we : WE) : WI := fun η Q => we η fun d => match d with
  | .list ds => Q ds
  | .tuple ds => Q ds
  | .dict es => Q (es.map (·.1))
  | _ => False
def rangeD (lo : Int) (n : Nat) : List D := (List.range n).map fun k => .int (lo + (k : Nat))
def wRng1 (wa : WE) : WI := fun η Q => wa η fun d => match d with
  | .int j => (-(2 ^ 62) ≤ j ∧ j < 2 ^ 62) ∧ Q (rangeD 0 j.toNat)
  | _ => False
def wRng2 (wa wb : WE) : WI := fun η Q => wa η fun d => wb η fun e => match d, e with
  | .int i, .int j => (-(2 ^ 62) ≤ i ∧ i < 2 ^ 62 ∧ -(2 ^ 62) ≤ j ∧ j < 2 ^ 62) ∧ Q (rangeD i (j - i).toNat)
  | _, _ => False
theorem it_rng {K : PySem.W.Frag} {sx : Sx} {F : Hp} {lo : Int} {n : Nat} : ItOk K sx F (Itr lo n) (rangeD lo n) where
  go := fun {F' H' i} _ _ hi => by
    show i < n
    simpa [rangeD] using hi
  yld := fun {F' H' H'' i x d} s b hi y => by
    obtain ⟨rfl, rfl⟩ := y
    rw [rangeD, List.getElem?_map] at hi
    cases q : (List.range n)[i]? with
    | none => rw [q] at hi; cases hi
    | some j =>
      rw [q] at hi
      have e : i = j := by
        have := List.getElem?_eq_some_iff.mp q
        obtain ⟨h1, h2⟩ := this
        simpa using h2
      subst e
      cases hi
      exact ⟨F', .refl b, .int _⟩
  stop := fun {F' H'} _ _ => by
    show n ≤ _
    simp [rangeD]
section
variable {X : Cx} {tg e : Expr} {te : TE} {we : WE} {ta tb : TE} {wa wb : WE} {a b : Expr} {p pos : Pos}
/-- a list, a tuple, a dict's keys -/
def iAny (K : PySem.W.Frag) (te : TE) : TI := fun σ H R => te σ H fun x H1 => ∃ a, x = .ref a ∧
  ((∃ xs, SqL K H1 a xs ∧ R (Itl K a) H1) ∨ (∃ xs, SqT K H1 a xs ∧ R (Itt K a) H1) ∨ (∃ o kvs, H1 a = some (.frz o (.dK kvs)) ∧ R (Itk a o kvs) H1) ∨ ∃ o kvs, H1 a = some (.frz o (.dT kvs)) ∧ R (Itkt a o kvs) H1)
theorem pi_any (he : PE X e te) : PI X tg e (iAny X.K te) := by
  refine ⟨fun pins s σ H R I h => ?_⟩
  refine thn (he.run pins s σ H _ I h) fun u s1 ⟨x, H1, I1, rx, a, ex, q⟩ => ?_
  subst ex
  obtain rfl : u = Value.ref a := rx
  have fin : ∀ {tn : Nat → Heap → Prop} (J : It) (o : Obj), Turn X.prog X.w X.K tg J [s1.heap.objs.size] s1.heap.objs.size tn → tn 0 (s1.heap.push o) → R J H1 → PIE X pins σ tg R (.ref s1.heap.objs.size) { s1 with heap := s1.heap.push o, toks := s1.toks } :=
    fun J o T st q => pi_one I1 o T st q
  rcases q with ⟨xs, hq, q⟩ | ⟨xs, hq, q⟩ | ⟨o, kvs, hd, q⟩ | ⟨o, kvs, hd, q⟩
  · obtain ⟨its, rv, p, hz⟩ := I1.list hq
    exact wpAny_pyIter_list p.isList (fin _ _ (turn_list a _) ⟨_, Heap.get?_push_size _ rfl, rfl, rfl⟩ q)
  · obtain ⟨its, rv, p, hz⟩ := I1.tuple hq
    exact wpAny_pyIter_tuple (show s1.heap.IsTuple a its.toArray from p) (fin _ _ (turn_tuple a _) ⟨_, Heap.get?_push_size _ rfl, rfl, rfl⟩ q)
  · obtain ⟨hs, hgd, hx, es, ep, vs, hdt, hsz, kv, hm⟩ := I1.frzK hd
    refine iter_keys hs hgd hx hdt (fin _ _ (turn_keys _ hdt) ⟨_, Heap.get?_push_size _ rfl, rfl, ?_⟩ q)
    rw [hsz] <;> rfl
  · obtain ⟨hs, hgd, hx, es, ep, hdt, hsz, ent⟩ := I1.frzT hd
    refine iter_keys hs hgd hx hdt (fin _ _ (turn_keysT _ hdt) ⟨_, Heap.get?_push_size _ rfl, rfl, ?_⟩ q)
    rw [hsz] <;> rfl
theorem di_items (he : DE X e te we) : DI X tg e (iAny X.K te) (wItems we) :=
  ⟨pi_any he.pe, fun {sx H0 F0 F σ H η Q R} r hw k => he.sem r hw fun d v F1 H1 q e hd => by
    have le := (r.ext e).base.le
    cases d <;> first | exact q.elim | skip
    · cases hd with
      | lst h1 h2 => exact ⟨_, rfl, .inl ⟨_, SqL.of (le _ _ h1), k _ _ F1 H1 q e (it_list h1 h2)⟩⟩
    · cases hd with
      | tup h1 h2 => exact ⟨_, rfl, .inr (.inl ⟨_, SqT.of (le _ _ h1), k _ _ F1 H1 q e (it_tup h1 h2)⟩)⟩
    · cases hd with
      | dK h1 h2 => exact ⟨_, rfl, .inr (.inr (.inl ⟨_, _, le _ _ h1, k _ _ F1 H1 q e (it_keysK h1 h2)⟩))⟩
      | dT h1 h2 => exact ⟨_, rfl, .inr (.inr (.inr ⟨_, _, le _ _ h1, k _ _ F1 H1 q e (it_keysT h1 h2)⟩))⟩⟩
theorem di_range1 (hg : Gl X "range") (hm : X.mg "range" = none) (ha : DO X a ta wa) (hs : starEach [a] X.env = [(false, eval a X.env)] := by rfl) : DI X tg (.Call (.Name "range" p) [a] [] pos) (iRng1 (tCons ta tNil)) (wRng1 wa) :=
  ⟨pi_range1 hg hm (pa_cons ha.pe pa_nil hs) hs, fun {sx H0 F0 F σ H η Q R} r hw k => ha.sem r hw fun d v F1 H1 q e o => by
    cases d <;> first | exact q.elim | skip
    cases (o.nw (r.ext e)).int
    exact ⟨_, rfl, q.1.1, q.1.2, k _ _ F1 H1 q.2 e it_rng⟩⟩
theorem di_range2 (hg : Gl X "range") (hm : X.mg "range" = none) (ha : DO X a ta wa) (hb : DO X b tb wb) (hs : starEach [a, b] X.env = [(false, eval a X.env), (false, eval b X.env)] := by rfl) (hs' : starEach [b] X.env = [(false, eval b X.env)] := by rfl) : DI X tg (.Call (.Name "range" p) [a, b] [] pos) (iRng2 (tCons ta (tCons tb tNil))) (wRng2 wa wb) :=
  ⟨pi_range2 hg hm (pa_cons ha.pe (pa_cons hb.pe pa_nil hs') (hs.trans (by rw [hs']))) hs hs', fun {sx H0 F0 F σ H η Q R} r hw k => ha.sem r hw fun d v F1 H1 q1 e1 o1 => hb.sem (r.ext e1) q1 fun d2 v2 F2 H2 q e2 o2 => by
    cases d <;> cases d2 <;> first | exact q.elim | skip
    have r2 := (r.ext e1).ext e2
    cases ((o1.mono e2.sF).nw r2).int
    cases (o2.nw r2).int
    exact ⟨_, _, rfl, q.1, k _ _ F2 H2 q.2 (e1.trans e2) it_rng⟩⟩
end

/-! ### comprehensions -/
def lcGo (g : WG) (tt : WT) (we : WE) (η : En) : List D → List D → (D → Prop) → Prop
  | [], acc, Q => Q (.list acc)
  | d :: ds, acc, Q => g d η fun η1 => tt η1 fun b => if b = true then we η1 fun y => acc.length < sizeLine ∧ lcGo g tt we η ds (acc ++ [y]) Q else lcGo g tt we η ds acc Q
def wLc (wi : WI) (g : WG) (tt : WT) (we : WE) (vs : List Nat) : WE := fun η Q => wi η fun ds => lcGo g tt we (wipeE η vs) ds [] Q
theorem sem_lc {K : PySem.W.Frag} {wi : TI} {wI : WI} {g : TG} {wg : WG} {L : List Nat} {tt : TT} {wt : WT} {te : TE} {we : WE} {vs : List Nat} (hi : SemI K wi wI) (hg : SemG K g wg L) (ht : SemT K tt wt) (he : SemE K te we) (hL : ∀ i ∈ L, i ∈ vs) :
    SemL K (tLc wi g tt te vs) (wLc wI wg wt we vs) := fun {sx H0 F0 F σ H η Q R} r hw k => by
  refine hi r hw fun ds J F1 H1 q e1 hit => ?_
  intro D hD
  have r1 := r.ext e1
  have rw1 := r1.wipe vs
  refine ⟨fun i m H' => ∃ F' xs acc, i ≤ ds.length ∧ m = ds.length - i ∧ Ext2 sx F1 H1 F' H' ∧ F' D = none ∧ H' D = some (.lst xs) ∧ DtL K F' xs acc ∧ lcGo wg wt we (wipeE η vs) (ds.drop i) acc Q, ⟨ds.length, F1, [], [], Nat.zero_le _, rfl, .newF r1.base hD, ?_, upd_same, .nil, q⟩, ?_⟩
  · cases z : F1 D with
    | none => rfl
    | some o => rw [r1.base.le _ _ z] at hD; cases hD
  · rintro i m H' ⟨F', xs, acc, hi1, hm, e', hF, hH, hxs, hq⟩
    have rr := rw1.ext e'
    by_cases h : i < ds.length
    · rw [List.drop_eq_getElem_cons h] at hq
      refine .inr ⟨hit.go e'.sF rr.base h, fun H'' => ∃ F'' xs acc, Ext2 sx F1 H1 F'' H'' ∧ F'' D = none ∧ H'' D = some (.lst xs) ∧ DtL K F'' xs acc ∧ lcGo wg wt we (wipeE η vs) (ds.drop (i + 1)) acc Q, ?_, ?_⟩
      · rintro H'' ⟨F'', xs, acc, a1, a2, a3, a4, a5⟩
        exact ⟨ds.length - (i + 1), by omega, F'', xs, acc, h, rfl, a1, a2, a3, a4, a5⟩
      · intro x H'' hy
        obtain ⟨F2, e2, hd⟩ := hit.yld e'.sF rr.base (List.getElem?_eq_getElem h) hy
        have r2 := rr.ext e2
        have keep : ∀ {Fa Ha Fb Hb : Hp}, Ext2 sx Fa Ha Fb Hb → Fa D = none → Ha D = some (.lst xs) → Fb D = none ∧ Hb D = some (.lst xs) := fun {Fa Ha Fb Hb} e f h => by
          have nx : ¬ inSx sx D := fun z => by obtain ⟨o, q⟩ := r1.base.ok.there z; rw [hD] at q; cases q
          have hb := e.sH _ _ h nx
          refine ⟨?_, hb⟩
          cases z : Fb D with
          | none => rfl
          | some o =>
            rcases e.fr _ _ z with y | y | ⟨ys, rfl⟩
            · rw [f] at y; cases y
            · rw [h] at y; cases y
            · rw [e.le _ _ z] at hb; cases hb
        obtain ⟨k1, k2⟩ := keep e2 hF hH
        refine hg r2 hd hq fun σ2 η2 q2 r2' w2 => ⟨?_, ?_⟩
        · rw [w2 vs hL]
          have : ∀ (ws : List Nat), L2.wipe (L2.wipe σ ws) ws = L2.wipe σ ws := by
            have aux : ∀ (ws : List Nat) (τ : L2.St), (∀ i ∈ ws, i < τ.length → τ[i]? = some none) → L2.wipe τ ws = τ := by
              intro ws
              induction ws with
              | nil => intro τ _; rfl
              | cons u us ih =>
                intro τ hτ
                show (L2.wipe τ us).set u none = τ
                rw [ih τ fun i hi => hτ i (List.mem_cons_of_mem _ hi)]
                apply List.ext_getElem?
                intro j
                by_cases e : u = j
                · subst e
                  by_cases hu : u < τ.length
                  · rw [List.getElem?_set_self hu, hτ u List.mem_cons_self hu]
                  · rw [List.getElem?_eq_none (by simpa using hu), List.getElem?_eq_none (by simpa using hu)]
                · rw [List.getElem?_set_ne e]
            intro ws
            refine aux ws _ ?_
            induction ws with
            | nil => intro i hi; cases hi
            | cons u us ih =>
              intro i hi hl
              show ((L2.wipe σ us).set u none)[i]? = _
              by_cases e : u = i
              · subst e
                rw [List.getElem?_set_self (by simpa [L2.wipe, List.length_set] using hl)]
              · rw [List.getElem?_set_ne e]
                rcases List.mem_cons.mp hi with h | h
                · exact absurd h.symm e
                · exact ih i h (by simpa [L2.wipe, List.length_set] using hl)
          exact this vs
        · refine ht r2' q2 fun b F3 H3 q3 e3 => ?_
          obtain ⟨k3, k4⟩ := keep e3 k1 k2
          cases b with
          | false =>
            rw [if_neg Bool.false_ne_true] at q3 ⊢
            exact ⟨F3, xs, acc, (e'.trans e2).trans e3, k3, k4, hxs.mono (e2.sF.trans e3.sF), q3⟩
          | true =>
            rw [if_pos rfl] at q3 ⊢
            refine he (r2'.ext e3) q3 fun y v F4 H4 q4 e4 hv => ?_
            obtain ⟨k5, k6⟩ := keep e4 k3 k4
            have h4 := ((e'.trans e2).trans e3).trans e4
            refine ⟨xs, k6, by rw [hxs.length]; exact q4.1, F4, xs ++ [v], acc ++ [y], ?_, k5, upd_same, (hxs.mono (e2.sF.trans (e3.sF.trans e4.sF))).append (.one hv), q4.2⟩
            have nx : ¬ inSx sx D := fun z => by obtain ⟨o, q⟩ := r1.base.ok.there z; rw [hD] at q; cases q
            refine ⟨h4.sF, fun b o hb n => ?_, fun b o hb => ?_, h4.fr, ?_⟩
            · rw [upd_ne (ne_of_none hb hD)]; exact h4.sH _ _ hb n
            · rw [upd_ne (ne_of_none hb k5)]; exact h4.le _ _ hb
            · cases sx with
              | none => trivial
              | some p =>
                obtain ⟨a1, b1⟩ := p
                obtain ⟨n, cs, l, m, t, z1, z2, z⟩ := h4.ok
                refine ⟨n, cs, l, m, t, ?_, ?_, z⟩
                · rw [upd_ne (fun z => nx (.inl z.symm))]; exact z1
                · rw [upd_ne (fun z => nx (.inr z.symm))]; exact z2
    · have hl : i = ds.length := by omega
      subst hl
      rw [List.drop_length] at hq
      have e3 := e1.trans e'
      have hn : H D = none := e1.back hD
      exact .inl ⟨hit.stop e'.sF rr.base, k acc xs D F' H' hq e3 hH hxs hF hn⟩
/-- a clause's tests -/
structure DTT (X : Cx) (ifs : List Expr) (t : TT) (w : WT) : Prop where
  pts : PTs X ifs t
  sem : SemT X.K t w
def wYes : WT := fun _ Q => Q true
section
variable {X : Cx}
theorem dtt_nil : DTT X [] tYes wYes := ⟨pts_nil, fun r hw k => k true _ _ hw (.refl r.base)⟩
theorem dtt_one {c : Expr} {t : TT} {w : WT} (h : DTs X c t w) : DTT X [c] t w := ⟨pts_one h.pt, h.sem⟩
abbrev compX (X : Cx) (scope : Scope) (s : Shared) (H : Hp) (C : Addr) (cl : List (Str × Addr)) (fp : List Addr) : Cx := X.blk s H scope (compEnvC scope cl C X.env) fp
theorem dl_lc {elt tg iter : Expr} {ifs : List Expr} {scope : Scope} {own : List (Str × Nat)} {pos : Pos} {wi : TI} {wI : WI} {g : TG} {wg : WG} {L : List Nat} {tt : TT} {wt : WT} {te : TE} {we : WE} (hc : X.calm = true) (hN : X.N.Nodup) (hi : DI X tg iter wi wI) (ok : BlkOk X.N X.env.scope scope own)
    (hg : ∀ (s : Shared) (H : Hp) (C : Addr) (cl : List (Str × Addr)) (fp : List Addr), DG (compX X scope s H C cl fp) tg g wg L) (ht : ∀ (s : Shared) (H : Hp) (C : Addr) (cl : List (Str × Addr)) (fp : List Addr), DTT (compX X scope s H C cl fp) ifs tt wt)
    (he : ∀ (s : Shared) (H : Hp) (C : Addr) (cl : List (Str × Addr)) (fp : List Addr), DE (compX X scope s H C cl fp) elt te we) (hL : ∀ i ∈ L, i ∈ own.map (·.2)) (hs : ∀ x, foldedSetIterable iter X.env x = pure x := by intro _; rfl) :
    DL X (.ListComp elt [⟨tg, iter, ifs, 0⟩] scope pos) (tLc wi g tt te (own.map (·.2))) (wLc wI wg wt we (own.map (·.2))) :=
  ⟨pe_lc hc hN hi.pi ok (fun s H C cl fp => (hg s H C cl fp).pg) (fun s H C cl fp => (ht s H C cl fp).pts) (fun s H C cl fp => (he s H C cl fp).pe) hs,
    sem_lc hi.sem (hg {} (fun _ => none) 0 [] []).sem (ht {} (fun _ => none) 0 [] []).sem (he {} (fun _ => none) 0 [] []).sem hL⟩
end
end W2

set_option Elab.async false
set_option linter.all false
set_option maxRecDepth 100000
/-! W2E: readings over data: statements, what a def promises. -/
namespace W2
open PySem PySem.Spec PyProof.Rows L2

structure WEnds where
  nx : En → Prop
  rt : D → Prop
  bk : En → Prop := fun _ => False
  ct : En → Prop := fun _ => False
abbrev WS := WEnds → En → Prop
structure ContS (K : PySem.W.Frag) (sx : Sx) (H0 F0 F : Hp) (D : WEnds) (R : Ends) : Prop where
  nx : ∀ η' σ' F' H', D.nx η' → Same F F' → Rep K sx H0 F0 F' σ' H' η' → R.nx σ' H'
  bk : ∀ η' σ' F' H', D.bk η' → Same F F' → Rep K sx H0 F0 F' σ' H' η' → R.bk σ' H'
  ct : ∀ η' σ' F' H', D.ct η' → Same F F' → Rep K sx H0 F0 F' σ' H' η' → R.ct σ' H'
  rt : ∀ d v F' H', D.rt d → Ext2 sx F0 H0 F' H' → Dt K F' v d → R.rt v H'
def SemS (K : PySem.W.Frag) (t : TS) (w : WS) : Prop := ∀ {sx : Sx} {H0 F0 F : Hp} {σ : L2.St} {H : Hp} {η : En} {D : WEnds} {R : Ends}, Rep K sx H0 F0 F σ H η → w D η → ContS K sx H0 F0 F D R → t R σ H
structure DS (X : Cx) (st : Stmt) (t : TS) (w : WS) : Prop where
  ps : PS X st t
  sem : SemS X.K t w
structure DSs (X : Cx) (st : List Stmt) (t : TS) (w : WS) : Prop where
  pss : PSs X st t
  sem : SemS X.K t w
theorem ContS.mono {K : PySem.W.Frag} {sx : Sx} {H0 F0 F F1 : Hp} {D : WEnds} {R : Ends} (k : ContS K sx H0 F0 F D R) (e : Same F F1) : ContS K sx H0 F0 F1 D R :=
  ⟨fun η' σ' F' H' q s => k.nx η' σ' F' H' q (e.trans s), fun η' σ' F' H' q s => k.bk η' σ' F' H' q (e.trans s), fun η' σ' F' H' q s => k.ct η' σ' F' H' q (e.trans s), k.rt⟩
def wNext : WS := fun D η => D.nx η
def wSeq (a b : WS) : WS := fun D η => a { D with nx := fun η' => b D η' } η
section
variable {X : Cx} {st : Stmt} {rest : List Stmt} {t u : TS} {a b : WS} {e : Expr} {te : TE} {we : WE} {pos : Pos}
theorem dss_nil : DSs X [] tNext wNext := ⟨pss_nil, fun r hw k => k.nx _ _ _ _ hw (Same.refl _) r⟩
theorem sem_seq {K : PySem.W.Frag} (h1 : SemS K t a) (h2 : SemS K u b) : SemS K (tSeq t u) (wSeq a b) := fun r hw k =>
  h1 r hw ⟨fun η' σ' F' H' q s r' => h2 r' q (k.mono s), k.bk, k.ct, k.rt⟩
theorem dss_cons (h1 : DS X st t a) (h2 : DSs X rest u b) : DSs X (st :: rest) (tSeq t u) (wSeq a b) := ⟨pss_cons h1.ps h2.pss, sem_seq h1.sem h2.sem⟩
theorem dss_one (h1 : DS X st t a) : DSs X [st] t a := ⟨pss_one h1.ps, h1.sem⟩
theorem ds_pass : DS X (.Pass pos) tNext wNext := ⟨ps_pass, fun r hw k => k.nx _ _ _ _ hw (Same.refl _) r⟩
def wBreak : WS := fun D η => D.bk η
def wCont : WS := fun D η => D.ct η
theorem ds_break : DS X (.Break pos) tBreak wBreak := ⟨ps_break, fun r hw k => k.bk _ _ _ _ hw (Same.refl _) r⟩
theorem ds_continue : DS X (.Continue pos) tCont wCont := ⟨ps_continue, fun r hw k => k.ct _ _ _ _ hw (Same.refl _) r⟩
def wNever : WS := fun _ _ => False
theorem ds_never : DS X st tNever wNever := ⟨ps_never, fun _ hw _ => hw.elim⟩
theorem dss_never {sts : List Stmt} : DSs X sts tNever wNever := ⟨pss_never, fun _ hw _ => hw.elim⟩
def wRet (we : WE) : WS := fun D η => we η D.rt
theorem sem_ret {K : PySem.W.Frag} (h : SemE K te we) : SemS K (tRet te) (wRet we) := fun r hw k => h r hw fun d v F' H' q e hd => k.rt d v F' H' q (r.ext e).out hd
theorem ds_ret (h : DE X e te we) : DS X (.Return (some e) pos) (tRet te) (wRet we) := ⟨ps_ret h.pe, sem_ret h.sem⟩
def wRetN : WS := fun D _ => D.rt .none
theorem ds_retN : DS X (.Return none pos) tRetN wRetN := ⟨ps_retN, fun r hw k => k.rt _ _ _ _ hw r.out .non⟩
def wExpr (we : WE) : WS := fun D η => we η fun _ => D.nx η
theorem ds_expr (h : DE X e te we) (hs : swapsWith e none pos.line X.env = pure false := by rfl) : DS X (.Expr e pos) (tDrop te) (wExpr we) :=
  ⟨ps_expr h.pe hs, fun r hw k => h.sem r hw fun d v F' H' q e hd => k.nx _ _ _ _ q e.sF (r.ext e)⟩
def wIf (c : WT) (a b : WS) : WS := fun D η => c η fun k => if k = true then a D η else b D η
theorem ds_if {c : Expr} {xs ys : List Stmt} {tc : TT} {wc : WT} (hc : DTs X c tc wc) (ha : DSs X xs t a) (hb : DSs X ys u b) : DS X (.If c xs ys pos) (tIfS tc t u) (wIf wc a b) :=
  ⟨ps_if hc.pt ha.pss hb.pss, fun r hw k => hc.sem r hw fun j F' H' q e => by
    cases j with
    | true => rw [if_pos rfl] at q ⊢; exact ha.sem (r.ext e) q (k.mono e.sF)
    | false => rw [if_neg Bool.false_ne_true] at q ⊢; exact hb.sem (r.ext e) q (k.mono e.sF)⟩
/-- target = e -/
def wAsg (we : WE) (g : WG) : WS := fun D η => we η fun d => g d η D.nx
theorem sem_asg {K : PySem.W.Frag} {g : TG} {wg : WG} {L : List Nat} (h : SemE K te we) (hg : SemG K g wg L) : SemS K (tAsg te g) (wAsg we wg) := fun r hw k =>
  h r hw fun d v F' H' q e hd => hg (r.ext e) hd q fun σ' η' q' r' _ => k.nx _ _ _ _ q' e.sF r'
theorem ds_set (i : Nat) {x : Str} {pos' : Pos} (hN : X.N.Nodup) (h : DE X e te we) (hi : X.N[i]? = some x := by rfl) (hx : Loc X.env.scope x := by first | exact Or.inl rfl | exact Or.inr rfl) (hs : swapsWith e (some (.Name x pos')) pos.line X.env = pure false := by rfl)
    (hf : X.fn x = true ∨ X.env.scope.names.lookup x = some .local := by first | exact .inl rfl | exact .inr rfl) : DS X (.Assign [.Name x pos'] e pos) (tAsg te (gName i)) (wAsg we (wGn i)) :=
  ⟨ps_set hN hi hx h.pe hs hf, sem_asg h.sem sem_gname⟩
theorem ds_asg {tg : Expr} {g : TG} {wg : WG} {L : List Nat} (h : DE X e te we) (hg : DG X tg g wg L) (hs : swapsWithSole [tg] e pos.line X.env = pure false := by rfl) (hw : swappedStores [tg] e X.env = pure none := by rfl)
    (h1 : (assignEach [tg] X.env).map (·.2) = [assign tg X.env] := by rfl) : DS X (.Assign [tg] e pos) (tAsg te g) (wAsg we wg) := ⟨ps_asg h.pe hg.pg hs hw h1, sem_asg h.sem hg.sem⟩
/-- x = a new list (a new dict), of its own -/
def wAsgL (we : WE) (i : Nat) : WS := fun D η => we η fun d => D.nx (η.set i (.ow d))
theorem sem_asgL {K : PySem.W.Frag} {i : Nat} (h : SemL K te we) : SemS K (tAsg te (gName i)) (wAsgL we i) := fun r hw k =>
  h r hw fun ds xs a F' H' q e h1 h2 h3 h4 => k.nx _ _ _ _ q e.sF (r.setOw e i (d := .list ds) ⟨xs, h1, h2⟩ h3 h4)
theorem sem_asgD {K : PySem.W.Frag} {i : Nat} (h : SemD K te we) : SemS K (tAsg te (gName i)) (wAsgL we i) := fun r hw k =>
  h r hw fun es a F' H' q e h1 h2 h3 => k.nx _ _ _ _ q e.sF (r.setOw e i h1 h2 h3)
theorem ds_setL (i : Nat) {x : Str} {pos' : Pos} (hN : X.N.Nodup) (h : DL X e te we) (hi : X.N[i]? = some x := by rfl) (hx : Loc X.env.scope x := by first | exact Or.inl rfl | exact Or.inr rfl) (hs : swapsWith e (some (.Name x pos')) pos.line X.env = pure false := by rfl)
    (hf : X.fn x = true ∨ X.env.scope.names.lookup x = some .local := by first | exact .inl rfl | exact .inr rfl) : DS X (.Assign [.Name x pos'] e pos) (tAsg te (gName i)) (wAsgL we i) :=
  ⟨ps_set hN hi hx h.pe hs hf, sem_asgL h.sem⟩
theorem ds_setD (i : Nat) {x : Str} {pos' : Pos} (hN : X.N.Nodup) (h : DD X e te we) (hi : X.N[i]? = some x := by rfl) (hx : Loc X.env.scope x := by first | exact Or.inl rfl | exact Or.inr rfl) (hs : swapsWith e (some (.Name x pos')) pos.line X.env = pure false := by rfl)
    (hf : X.fn x = true ∨ X.env.scope.names.lookup x = some .local := by first | exact .inl rfl | exact .inr rfl) : DS X (.Assign [.Name x pos'] e pos) (tAsg te (gName i)) (wAsgL we i) :=
  ⟨ps_set hN hi hx h.pe hs hf, sem_asgD h.sem⟩
/-- x = [.. for ..] on one line, x a local -/
theorem ds_setLc (i : Nat) {y : Str} {py : Pos} {elt tg iter : Expr} {ifs : List Expr} {scope : Scope} {own : List (Str × Nat)} {spos : Pos} {wi : TI} {g : TG} {tt : TT} (hc : X.calm = true) (hN : X.N.Nodup) (hL : DL X (.ListComp elt [⟨tg, iter, ifs, 0⟩] scope pos) (tLc wi g tt te (own.map (·.2))) we)
    (hps : PS X (.Assign [.Name y py] (.ListComp elt [⟨tg, iter, ifs, 0⟩] scope pos) spos) (tAsg (tLc wi g tt te (own.map (·.2))) (gName i))) : DS X (.Assign [.Name y py] (.ListComp elt [⟨tg, iter, ifs, 0⟩] scope pos) spos) (tAsg (tLc wi g tt te (own.map (·.2))) (gName i)) (wAsgL we i) :=
  ⟨hps, sem_asgL hL.sem⟩
end

/-! ### a slot's own object changes -/
section
variable {K : PySem.W.Frag} {sx : Sx} {H0 F0 F H : Hp} {σ : L2.St} {η : En}
theorem Rep.put (r : Rep K sx H0 F0 F σ H η) {i : Nat} {a : Addr} {d d' : D} {o' : HO} (hi : η[i]? = some (.ow d)) (hs : σ[i]? = some (some (.ref a))) (ho : OwnAt K F (upd H a o') a d') : Rep K sx H0 F0 F σ (upd H a o') (η.set i (.ow d')) := by
  obtain ⟨a', e, h1, h2, h3, h4⟩ := r.sl i _ _ hi hs
  cases e
  have il : i < η.length := (List.getElem?_eq_some_iff.mp hi).1
  refine { base := ⟨fun b o q => ?_, ?_, r.base.no⟩, s0 := fun b o q n => ?_, f0 := r.f0, fr := r.fr, len := by rw [List.length_set]; exact r.len, sl := fun j s v q1 q2 => ?_, sep := fun j k d1 d2 b q1 q2 q3 q4 => ?_ }
  · rw [upd_ne (ne_of_none q h2)]; exact r.base.le _ _ q
  · cases sx with
    | none => trivial
    | some p =>
      obtain ⟨a1, b1⟩ := p
      obtain ⟨n, cs, l, m, t, z1, z2, z⟩ := r.base.ok
      exact ⟨n, cs, l, m, t, by rw [upd_ne (fun z => h4 (.inl z.symm))]; exact z1, by rw [upd_ne (fun z => h4 (.inr z.symm))]; exact z2, z⟩
  · rw [upd_ne (ne_of_none q h3)]; exact r.s0 b o q n
  · by_cases e : i = j
    · subst e
      rw [List.getElem?_set_self il] at q1
      cases q1
      rw [hs] at q2
      cases q2
      exact ⟨a, rfl, ho, h2, h3, h4⟩
    · rw [List.getElem?_set_ne e] at q1
      have q := r.sl j s v q1 q2
      cases s with
      | un => trivial
      | fz d => exact q
      | ow d2 =>
        obtain ⟨b, e1, g1, g2, g3, g4⟩ := q
        subst e1
        have nb : b ≠ a := fun z => by
          subst z
          exact e (r.sep i j _ _ _ hi q1 hs q2)
        exact ⟨b, rfl, g1.mono (Same.refl F) fun o z => by rw [upd_ne nb]; exact z, g2, g3, g4⟩
      | src => exact q
  · have old : ∀ (m : Nat) (e : D), (η.set i (.ow d'))[m]? = some (.ow e) → ∃ e', η[m]? = some (.ow e') := fun m e z => by
      by_cases em : i = m
      · subst em; exact ⟨d, hi⟩
      · rw [List.getElem?_set_ne em] at z; exact ⟨e, z⟩
    obtain ⟨e1, z1⟩ := old j d1 q1
    obtain ⟨e2, z2⟩ := old k d2 q2
    exact r.sep j k e1 e2 b z1 z2 q3 q4
/-- a slot's own object is frozen: a list -/
theorem Rep.frzL (r : Rep K sx H0 F0 F σ H η) {i : Nat} {a : Addr} {ds : List D} {xs : List V} (hi : η[i]? = some (.ow (.list ds))) (hs : σ[i]? = some (some (.ref a))) (hH : H a = some (.lst xs)) (hd : DtL K F xs ds) :
    Same F (upd F a (.lst xs)) ∧ Rep K sx H0 F0 (upd F a (.lst xs)) σ H (η.set i (.fz (.list ds))) := by
  obtain ⟨a', e, h1, h2, h3, h4⟩ := r.sl i _ _ hi hs
  cases e
  have il : i < η.length := (List.getElem?_eq_some_iff.mp hi).1
  have sF : Same F (upd F a (.lst xs)) := fun b o q => by rw [upd_ne (ne_of_none q h2)]; exact q
  refine ⟨sF, { base := ⟨fun b o q => ?_, r.base.ok, fun c hc => ?_⟩, s0 := r.s0, f0 := r.f0.trans sF, fr := fun b o q => ?_, len := by rw [List.length_set]; exact r.len, sl := fun j s v q1 q2 => ?_, sep := fun j k d1 d2 b q1 q2 q3 q4 => ?_ }⟩
  · by_cases e : b = a
    · subst e; rw [upd_same] at q; cases q; exact hH
    · rw [upd_ne e] at q; exact r.base.le _ _ q
  · rw [upd_ne (fun e => h4 (by rw [← e]; exact hc))]; exact r.base.no c hc
  · by_cases e : b = a
    · subst e; exact .inr (.inl h3)
    · rw [upd_ne e] at q; exact r.fr b o q
  · by_cases e : i = j
    · subst e
      rw [List.getElem?_set_self il] at q1
      cases q1
      rw [hs] at q2
      cases q2
      exact ⟨.ref a, rfl, .lst upd_same (hd.mono sF)⟩
    · rw [List.getElem?_set_ne e] at q1
      have q := r.sl j s v q1 q2
      cases s with
      | un => trivial
      | fz d => obtain ⟨x, e1, g⟩ := q; exact ⟨x, e1, g.mono sF⟩
      | ow d2 =>
        obtain ⟨b, e1, g1, g2, g3, g4⟩ := q
        subst e1
        have nb : b ≠ a := fun z => by
          subst z
          exact e (r.sep i j _ _ _ hi q1 hs q2)
        exact ⟨b, rfl, g1.mono sF fun o z => z, by rw [upd_ne nb]; exact g2, g3, g4⟩
      | src => exact q
  · have ne : ∀ (m : Nat) (e : D), (η.set i (.fz (.list ds)))[m]? = some (.ow e) → η[m]? = some (.ow e) := fun m e z => by
      by_cases em : i = m
      · subst em; rw [List.getElem?_set_self il] at z; cases z
      · rw [List.getElem?_set_ne em] at z; exact z
    exact r.sep j k d1 d2 b (ne j _ q1) (ne k _ q2) q3 q4
/-- .. a dict: it is locked for good -/
theorem Rep.frzD (r : Rep K sx H0 F0 F σ H η) {i : Nat} {a : Addr} {es : List (D × D)} {u : HO} {o : Obj} (hi : η[i]? = some (.ow (.dict es))) (hs : σ[i]? = some (some (.ref a))) (hH : H a = some u)
    (hd : (∃ kvs, u = .dK kvs ∧ DtK K F kvs es) ∨ ∃ kvs, u = .dT kvs ∧ DtT K F kvs es) :
    Same F (upd F a (.frz o u)) ∧ Rep K sx H0 F0 (upd F a (.frz o u)) σ (upd H a (.frz o u)) (η.set i (.fz (.dict es))) := by
  obtain ⟨a', e, h1, h2, h3, h4⟩ := r.sl i _ _ hi hs
  cases e
  have il : i < η.length := (List.getElem?_eq_some_iff.mp hi).1
  have sF : Same F (upd F a (.frz o u)) := fun b o q => by rw [upd_ne (ne_of_none q h2)]; exact q
  refine ⟨sF, { base := ⟨fun b o q => ?_, ?_, fun c hc => ?_⟩, s0 := fun b o q n => ?_, f0 := r.f0.trans sF, fr := fun b o q => ?_, len := by rw [List.length_set]; exact r.len, sl := fun j s v q1 q2 => ?_, sep := fun j k d1 d2 b q1 q2 q3 q4 => ?_ }⟩
  · by_cases e : b = a
    · subst e; rw [upd_same] at q ⊢; exact q
    · rw [upd_ne e] at q ⊢; exact r.base.le _ _ q
  · cases sx with
    | none => trivial
    | some p =>
      obtain ⟨a1, b1⟩ := p
      obtain ⟨n, cs, l, m, t, z1, z2, z⟩ := r.base.ok
      exact ⟨n, cs, l, m, t, by rw [upd_ne (fun z => h4 (.inl z.symm))]; exact z1, by rw [upd_ne (fun z => h4 (.inr z.symm))]; exact z2, z⟩
  · rw [upd_ne (fun e => h4 (by rw [← e]; exact hc))]; exact r.base.no c hc
  · rw [upd_ne (ne_of_none q h3)]; exact r.s0 b o q n
  · by_cases e : b = a
    · subst e; exact .inr (.inl h3)
    · rw [upd_ne e] at q; exact r.fr b o q
  · by_cases e : i = j
    · subst e
      rw [List.getElem?_set_self il] at q1
      cases q1
      rw [hs] at q2
      cases q2
      refine ⟨.ref a, rfl, ?_⟩
      rcases hd with ⟨kvs, rfl, hd⟩ | ⟨kvs, rfl, hd⟩
      · exact .dK upd_same (hd.mono sF)
      · exact .dT upd_same (hd.mono sF)
    · rw [List.getElem?_set_ne e] at q1
      have q := r.sl j s v q1 q2
      cases s with
      | un => trivial
      | fz d => obtain ⟨x, e1, g⟩ := q; exact ⟨x, e1, g.mono sF⟩
      | ow d2 =>
        obtain ⟨b, e1, g1, g2, g3, g4⟩ := q
        subst e1
        have nb : b ≠ a := fun z => by
          subst z
          exact e (r.sep i j _ _ _ hi q1 hs q2)
        exact ⟨b, rfl, g1.mono sF fun o z => by rw [upd_ne nb]; exact z, by rw [upd_ne nb]; exact g2, g3, g4⟩
      | src => exact q
  · have ne : ∀ (m : Nat) (e : D), (η.set i (.fz (.dict es)))[m]? = some (.ow e) → η[m]? = some (.ow e) := fun m e z => by
      by_cases em : i = m
      · subst em; rw [List.getElem?_set_self il] at z; cases z
      · rw [List.getElem?_set_ne em] at z; exact z
    exact r.sep j k d1 d2 b (ne j _ q1) (ne k _ q2) q3 q4
end
/-- slot i is frozen ahead of what follows -/
def tFrz (i : Nat) (t : TS) : TS := fun D σ H => ∃ a u, σ[i]? = some (some (.ref a)) ∧ H a = some u ∧ ((∃ xs, u = .lst xs ∧ t D σ H) ∨ (Mut (some u) ∧ ∀ o, t D σ (upd H a (.frz o u))))
def wFrz (i : Nat) (w : WS) : WS := fun D η => match η[i]? with
  | some (.ow d) => w D (η.set i (.fz d))
  | _ => False
section
variable {X : Cx} {sts : List Stmt} {t : TS} {w : WS}
theorem pss_frz (i : Nat) (h : PSs X sts t) : PSs X sts (tFrz i t) := ⟨fun pins s σ H D I hw => by
  obtain ⟨a, u, _, hu, q⟩ := hw
  rcases q with ⟨xs, _, q⟩ | ⟨mu, q⟩
  · exact h.run pins s σ H D I q
  · obtain ⟨o, I1⟩ := I.lock hu mu
    exact h.run pins s σ _ D I1 (q o)⟩
theorem dss_frz (i : Nat) (h : DSs X sts t w) : DSs X sts (tFrz i t) (wFrz i w) := ⟨pss_frz i h.pss, fun {sx H0 F0 F σ H η D R} r hw k => by
  unfold wFrz at hw
  split at hw
  · rename_i d hi
    obtain ⟨v, hv, a, e, ho, h2⟩ := r.val hi
    subst e
    cases d with
    | list ds =>
      obtain ⟨xs, hH, hd⟩ := ho
      obtain ⟨sF, r'⟩ := r.frzL hi hv hH hd
      exact ⟨a, _, hv, hH, .inl ⟨xs, rfl, h.sem r' hw (k.mono sF)⟩⟩
    | dict es =>
      rcases ho with ⟨kvs, hH, hd⟩ | ⟨kvs, hH, hd⟩
      · refine ⟨a, _, hv, hH, .inr ⟨trivial, fun o => ?_⟩⟩
        obtain ⟨sF, r'⟩ := r.frzD (o := o) hi hv hH (.inl ⟨kvs, rfl, hd⟩)
        exact h.sem r' hw (k.mono sF)
      · refine ⟨a, _, hv, hH, .inr ⟨trivial, fun o => ?_⟩⟩
        obtain ⟨sF, r'⟩ := r.frzD (o := o) hi hv hH (.inr ⟨kvs, rfl, hd⟩)
        exact h.sem r' hw (k.mono sF)
    | _ => exact ho.elim
  · exact hw.elim⟩
end

/-! ### loops -/
def forGo (g : WG) (body : WS) (D : WEnds) : List PyData → En → Prop
  | [], η => D.nx η
  | d :: ds, η => g d η fun η1 => body { nx := forGo g body D ds, rt := D.rt, bk := D.nx, ct := forGo g body D ds } η1
def wFor (wi : WI) (g : WG) (body : WS) : WS := fun D η => wi η fun ds => forGo g body D ds η
theorem sem_for {K : PySem.W.Frag} {ti : TI} {wi : WI} {g : TG} {wg : WG} {L : List Nat} {tb : TS} {wb : WS} (hi : SemI K ti wi) (hg : SemG K g wg L) (hb : SemS K tb wb) : SemS K (tFor ti g tb) (wFor wi wg wb) := fun {sx H0 F0 F σ H η D R} r hw k => by
  refine hi r hw fun ds J F1 H1 q e1 hit => ?_
  refine ⟨fun i m σ' H' => ∃ F' η', i ≤ ds.length ∧ m = ds.length - i ∧ Same F1 F' ∧ Rep K sx H0 F0 F' σ' H' η' ∧ forGo wg wb D (ds.drop i) η', ⟨ds.length, F1, η, Nat.zero_le _, rfl, Same.refl _, r.ext e1, q⟩, ?_⟩
  rintro i m σ' H' ⟨F', η', h1, hm, sF, r', hq⟩
  by_cases h : i < ds.length
  · rw [List.drop_eq_getElem_cons h] at hq
    refine .inr ⟨hit.go sF r'.base h, fun σ2 H2 => ∃ F2 η2, Same F1 F2 ∧ Rep K sx H0 F0 F2 σ2 H2 η2 ∧ forGo wg wb D (ds.drop (i + 1)) η2, ?_, ?_⟩
    · rintro σ2 H2 ⟨F2, η2, a1, a2, a3⟩
      exact ⟨ds.length - (i + 1), by omega, F2, η2, h, rfl, a1, a2, a3⟩
    · intro x H2 hy
      obtain ⟨F2, e2, hd⟩ := hit.yld sF r'.base (List.getElem?_eq_getElem h) hy
      refine hg (r'.ext e2) hd hq fun σ3 η3 q3 r3 _ => ?_
      have s2 := sF.trans e2.sF
      refine hb r3 q3 ⟨fun η4 σ4 F4 H4 q4 s4 r4 => ⟨F4, η4, s2.trans s4, r4, q4⟩, fun η4 σ4 F4 H4 q4 s4 r4 => k.nx _ _ _ _ q4 (e1.sF.trans (s2.trans s4)) r4, fun η4 σ4 F4 H4 q4 s4 r4 => ⟨F4, η4, s2.trans s4, r4, q4⟩, k.rt⟩
  · have hl : i = ds.length := by omega
    subst hl
    rw [List.drop_length] at hq
    exact .inl ⟨hit.stop sF r'.base, k.nx _ _ _ _ hq (e1.sF.trans sF) r'⟩
theorem ds_for {X : Cx} {tg iter : Expr} {body : List Stmt} {pos : Pos} {ti : TI} {wi : WI} {g : TG} {wg : WG} {L : List Nat} {tb : TS} {wb : WS} (hp : PassesOwn (model X.prog X.w) X.A X.env X.xe) (hc : X.calm = true) (hi : DI X tg iter ti wi) (hg : DG X tg g wg L) (hb : DSs X body tb wb)
    (hs : ∀ x, foldedSetIterable iter X.env x = pure x := by intro _; rfl) : DS X (.For tg iter body [] pos) (tFor ti g tb) (wFor wi wg wb) := ⟨ps_for hp hc hi.pi hg.pg hb.pss hs, sem_for hi.sem hg.sem hb.sem⟩
def wWhile (c : WT) (body : WS) : WS := fun D η => ∃ I : Nat → En → Prop, (∃ m, I m η) ∧ ∀ m η, I m η → c η fun k => if k = true then body { nx := fun η' => ∃ m', m' < m ∧ I m' η', rt := D.rt, bk := D.nx, ct := fun η' => ∃ m', m' < m ∧ I m' η' } η else D.nx η
end W2

set_option Elab.async false
set_option linter.all false
set_option maxRecDepth 100000
/-! W2F: dicts over data; a slot's own list or dict changed. -/
namespace W2
open PySem PySem.Spec PyProof.Rows L2

/-! ### keys -/
def flatKey : D → Bool
  | .int _ => true
  | .str _ => true
  | _ => false
def keyOk : D → Bool
  | .int _ => true
  | .str _ => true
  | .tuple ks => ks.all flatKey
  | _ => false
def kindOk (es : List (D × D)) (k : D) : Bool := es.all fun e => flatKey e.1 == flatKey k
def dGet (es : List (D × D)) (k : D) : Option D := (es.find? fun e => PyData.eqv e.1 k).map (·.2)
def dPut (es : List (D × D)) (k v : D) : List (D × D) := if es.any (fun e => PyData.eqv e.1 k) = true then es.map (fun e => if PyData.eqv e.1 k = true then (e.1, v) else e) else es ++ [(k, v)]
theorem eqv_kD : ∀ (a b : Key), PyData.eqv (kD a) (kD b) = decide (a = b)
  | .inl i, .inl j => by
    show (i == j) = _
    by_cases e : i = j
    · subst e; simp
    · rw [decide_eq_false (fun z => e (Sum.inl.inj z))]; exact beq_eq_false_iff_ne.mpr e
  | .inr i, .inr j => by
    show (i == j) = _
    by_cases e : i = j
    · subst e; simp
    · rw [decide_eq_false (fun z => e (Sum.inr.inj z))]; exact beq_eq_false_iff_ne.mpr e
  | .inl i, .inr j => by
    show false = _
    exact (decide_eq_false (fun z => nomatch z)).symm
  | .inr i, .inl j => by
    show false = _
    exact (decide_eq_false (fun z => nomatch z)).symm
theorem eqvAll_kD : ∀ (a b : List Key), PyData.eqvAll (a.map kD) (b.map kD) = decide (a = b)
  | [], [] => rfl
  | [], _ :: _ => rfl
  | _ :: _, [] => rfl
  | x :: a, y :: b => by
    show (PyData.eqv (kD x) (kD y) && PyData.eqvAll (a.map kD) (b.map kD)) = _
    rw [eqv_kD, eqvAll_kD a b]
    by_cases e : x = y
    · by_cases e' : a = b
      · subst e; subst e'; simp
      · rw [decide_eq_false e', decide_eq_false (fun z => e' (List.cons.inj z).2), Bool.and_false]
    · rw [decide_eq_false e, decide_eq_false (fun z => e (List.cons.inj z).1), Bool.false_and]
theorem eqv_kT (a b : List Key) : PyData.eqv (.tuple (a.map kD)) (.tuple (b.map kD)) = decide (a = b) := eqvAll_kD a b
theorem flat_kD : ∀ (k : Key), flatKey (kD k) = true
  | .inl _ => rfl
  | .inr _ => rfl
theorem flat_of {d : D} (h : flatKey d = true) : ∃ k, d = kD k := by
  cases d <;> first | (cases h; done) | skip
  · exact ⟨.inl _, rfl⟩
  · exact ⟨.inr _, rfl⟩
theorem flats_of : ∀ {ds : List D}, ds.all flatKey = true → ∃ ks : List Key, ds = ks.map kD
  | [], _ => ⟨[], rfl⟩
  | d :: ds, h => by
    rw [List.all_cons, Bool.and_eq_true] at h
    obtain ⟨k, rfl⟩ := flat_of h.1
    obtain ⟨ks, rfl⟩ := flats_of h.2
    exact ⟨k :: ks, rfl⟩
theorem keyOk_cases {d : D} (h : keyOk d = true) : (∃ k, d = kD k) ∨ ∃ ks : List Key, d = .tuple (ks.map kD) := by
  cases d <;> first | (cases h; done) | skip
  · exact .inl ⟨.inl _, rfl⟩
  · exact .inl ⟨.inr _, rfl⟩
  · obtain ⟨ks, rfl⟩ := flats_of h
    exact .inr ⟨ks, rfl⟩
section
variable {K : PySem.W.Frag} {F : Hp}
/-- what stands at a key -/
def RelD (K : PySem.W.Frag) (F : Hp) : Option V → Option D → Prop
  | none, none => True
  | some v, some d => Dt K F v d
  | _, _ => False
theorem DtK.get (k : Key) : ∀ {kvs : List (Key × V)} {es : List (D × D)}, DtK K F kvs es → RelD K F (valV kvs k) (dGet es (kD k))
  | _, _, .nil => trivial
  | _, _, .cons (k := k') (v := v) (r := r) (d := d) (rs := rs) h t => by
    unfold valV dGet
    rw [List.find?_cons, List.find?_cons, eqv_kD]
    by_cases e : k' = k
    · rw [decide_eq_true e]; exact h
    · rw [decide_eq_false e]; exact t.get k
theorem DtT.get (k : List Key) : ∀ {kvs : List (List Key × V)} {es : List (D × D)}, DtT K F kvs es → RelD K F (valV kvs k) (dGet es (.tuple (k.map kD)))
  | _, _, .nil => trivial
  | _, _, .cons (k := k') (v := v) (r := r) (d := d) (rs := rs) h t => by
    unfold valV dGet
    rw [List.find?_cons, List.find?_cons, eqv_kT]
    by_cases e : k' = k
    · rw [decide_eq_true e]; exact h
    · rw [decide_eq_false e]; exact t.get k
theorem DtK.any (k : Key) : ∀ {kvs : List (Key × V)} {es : List (D × D)}, DtK K F kvs es → (kvs.any fun kv => decide (kv.1 = k)) = es.any fun e => PyData.eqv e.1 (kD k)
  | _, _, .nil => rfl
  | _, _, .cons _ t => by rw [List.any_cons, List.any_cons, eqv_kD, t.any k]
theorem DtT.any (k : List Key) : ∀ {kvs : List (List Key × V)} {es : List (D × D)}, DtT K F kvs es → (kvs.any fun kv => decide (kv.1 = k)) = es.any fun e => PyData.eqv e.1 (.tuple (k.map kD))
  | _, _, .nil => rfl
  | _, _, .cons _ t => by rw [List.any_cons, List.any_cons, eqv_kT, t.any k]
theorem DtK.snoc {k : Key} {v : V} {d : D} (h : Dt K F v d) : ∀ {kvs : List (Key × V)} {es : List (D × D)}, DtK K F kvs es → DtK K F (kvs ++ [(k, v)]) (es ++ [(kD k, d)])
  | _, _, .nil => .cons h .nil
  | _, _, .cons a t => .cons a (t.snoc h)
theorem DtT.snoc {k : List Key} {v : V} {d : D} (h : Dt K F v d) : ∀ {kvs : List (List Key × V)} {es : List (D × D)}, DtT K F kvs es → DtT K F (kvs ++ [(k, v)]) (es ++ [(.tuple (k.map kD), d)])
  | _, _, .nil => .cons h .nil
  | _, _, .cons a t => .cons a (t.snoc h)
theorem DtK.over {k : Key} {v : V} {d : D} (h : Dt K F v d) : ∀ {kvs : List (Key × V)} {es : List (D × D)}, DtK K F kvs es → DtK K F (kvs.map fun kv => if kv.1 = k then (kv.1, v) else kv) (es.map fun e => if PyData.eqv e.1 (kD k) = true then (e.1, d) else e)
  | _, _, .nil => .nil
  | _, _, .cons (k := k') a t => by
    rw [List.map_cons, List.map_cons, eqv_kD]
    by_cases e : k' = k
    · simp only [e, decide_true, if_true]
      exact .cons h (t.over h)
    · simp only [e, decide_false, if_false, Bool.false_eq_true]
      exact .cons a (t.over h)
theorem DtT.over {k : List Key} {v : V} {d : D} (h : Dt K F v d) : ∀ {kvs : List (List Key × V)} {es : List (D × D)}, DtT K F kvs es → DtT K F (kvs.map fun kv => if kv.1 = k then (kv.1, v) else kv) (es.map fun e => if PyData.eqv e.1 (.tuple (k.map kD)) = true then (e.1, d) else e)
  | _, _, .nil => .nil
  | _, _, .cons (k := k') a t => by
    rw [List.map_cons, List.map_cons, eqv_kT]
    by_cases e : k' = k
    · simp only [e, decide_true, if_true]
      exact .cons h (t.over h)
    · simp only [e, decide_false, if_false, Bool.false_eq_true]
      exact .cons a (t.over h)
theorem DtK.put {k : Key} {v : V} {d : D} {kvs : List (Key × V)} {es : List (D × D)} (t : DtK K F kvs es) (h : Dt K F v d) : DtK K F (putK kvs k v) (dPut es (kD k) d) := by
  unfold putK dPut
  rw [t.any k]
  by_cases c : (es.any fun e => PyData.eqv e.1 (kD k)) = true
  · rw [if_pos c, if_pos c]; exact t.over h
  · rw [if_neg c, if_neg c]; exact t.snoc h
theorem DtT.put {k : List Key} {v : V} {d : D} {kvs : List (List Key × V)} {es : List (D × D)} (t : DtT K F kvs es) (h : Dt K F v d) : DtT K F (putK kvs k v) (dPut es (.tuple (k.map kD)) d) := by
  unfold putK dPut
  rw [t.any k]
  by_cases c : (es.any fun e => PyData.eqv e.1 (.tuple (k.map kD))) = true
  · rw [if_pos c, if_pos c]; exact t.over h
  · rw [if_neg c, if_neg c]; exact t.snoc h
theorem DtK.kind {k : List Key} : ∀ {kvs : List (Key × V)} {es : List (D × D)}, DtK K F kvs es → kindOk es (.tuple (k.map kD)) = true → kvs = [] ∧ es = []
  | _, _, .nil, _ => ⟨rfl, rfl⟩
  | _, _, .cons (k := k') _ _, h => by
    exfalso
    unfold kindOk at h
    rw [List.all_cons, Bool.and_eq_true] at h
    have h1 := h.1
    rw [flat_kD] at h1
    cases h1
theorem DtT.kind {k : Key} : ∀ {kvs : List (List Key × V)} {es : List (D × D)}, DtT K F kvs es → kindOk es (kD k) = true → kvs = [] ∧ es = []
  | _, _, .nil, _ => ⟨rfl, rfl⟩
  | _, _, .cons (k := k') _ _, h => by
    exfalso
    unfold kindOk at h
    rw [List.all_cons, Bool.and_eq_true] at h
    have h1 := h.1
    rw [flat_kD] at h1
    cases h1
end

/-! ### dicts that are empty take keys of either kind -/
def KeyAt (H : Hp) (y : V) : Prop := (∃ k, y = kV k) ∨ ∃ (k : List Key) (b : Addr), y = .ref b ∧ H b = some (.tup (k.map kV))
def EmptyD (H : Hp) (a : Addr) : Prop := Rd H a (.dK []) ∨ Rd H a (.dT [])
def DGetE (H : Hp) (a : Addr) (y : V) (r : Option V) : Prop := DGet H a y r ∨ (r = none ∧ EmptyD H a ∧ KeyAt H y)
def DPutE (H : Hp) (a : Addr) (y v : V) (H' : Hp) : Prop := DPut H a y v H' ∨
  (∃ (k : List Key) (b : Addr), H a = some (.dK []) ∧ y = .ref b ∧ H b = some (.tup (k.map kV)) ∧ H' = upd H a (.dT [(k, v)])) ∨ ∃ k, H a = some (.dT []) ∧ y = kV k ∧ H' = upd H a (.dK [(k, v)])
section
variable {X : Cx} {pins : List (Addr × Obj)} {σ : L2.St} {H : Hp} {s : Shared} {a : Addr} {y v d : V} {u r : Value} {o : Option V} {A : Around} {E : Value → Shared → Prop}
theorem empty_both {P : Program} {w : World} {h : Heap} (ok : HOk P w H h) (e : EmptyD H a) : (a == sysModules) = false ∧ h.DictOf (mixKind P w) a [] ∧ h.DictOfH (tupleKind (mixKind P w)) a [] := by
  rcases e with e | e
  · obtain ⟨_, hd, vs, rel, dd⟩ := dk_rd ok e
    have : vs = [] := by cases rel; rfl
    subst this
    obtain ⟨ob, es, ep, h1, h2, h3, h4, h5, h6⟩ := id dd
    refine ⟨hd, dd, ob, es, ep, h1, h2, h3, ?_, fun x hx => absurd hx (by simp), List.nodup_nil⟩
    have e0 : es.toList = [] := by
      cases hh : es.toList with
      | nil => rfl
      | cons x r => rw [hh] at h5; cases h5
    rw [e0]; rfl
  · obtain ⟨_, hd, xs, rel, dd⟩ := dt_rd ok e
    have : xs = [] := by cases rel; rfl
    subst this
    obtain ⟨ob, es, ep, h1, h2, h3, h4, h5, h6⟩ := id dd
    have e0 : es.toList = [] := by rw [h4]; rfl
    have e1 : es = #[] := Array.toList_inj.mp (by rw [e0])
    subst e1
    refine ⟨hd, ⟨ob, #[], ep, h1, h2, h3, ?_, ?_, List.nodup_nil⟩, dd⟩
    · first | exact fun i hi => absurd hi (by simp) | (constructor <;> simp) | simp [KeysOf]
    · exact .nil
theorem d_getItemE {Q : Value → Shared → Prop} (hu : A.units + 1 < cLine) (I : Inv X pins σ H s) (g : DGetE H a y (some v)) (ry : RelV y u) (h : ∀ w' s', Inv X pins σ H s' → RelV v w' → Q w' s') :
    wpAny (model X.prog X.w) A (getItem (.ref a) u) Q E s := by
  rcases g with g | ⟨e, _⟩
  · exact d_getItem hu I g ry h
  · cases e
theorem d_inE {Q : Value → Shared → Prop} (hu : A.units + 1 < cLine) (I : Inv X pins σ H s) (g : DGetE H a y o) (ry : RelV y u) (h : ∀ s', Inv X pins σ H s' → Q (.bool o.isSome) s') :
    wpAny (model X.prog X.w) A (compareOp .In u (.ref a)) Q E s := by
  rcases g with g | ⟨rfl, em, ⟨k, rfl⟩ | ⟨k, b, rfl, eb⟩⟩
  · exact d_in hu I g ry h
  · obtain ⟨hd, dd, _⟩ := empty_both I.hok em
    exact wpAny_in_of (kV_is ry) hd dd.mapOf (h _ (I.tok _))
  · cases (show u = Value.ref b from ry)
    obtain ⟨hd, _, dd⟩ := empty_both I.hok em
    exact wpAny_in_heap (tupleKind_room_in1 hu) (key_of I.hok eb) hd dd (h _ (I.tok _))
theorem d_notInE {Q : Value → Shared → Prop} (hu : A.units + 1 < cLine) (I : Inv X pins σ H s) (g : DGetE H a y o) (ry : RelV y u) (h : ∀ s', Inv X pins σ H s' → Q (.bool (!o.isSome)) s') :
    wpAny (model X.prog X.w) A (compareOp .NotIn u (.ref a)) Q E s := by
  rcases g with g | ⟨rfl, em, ⟨k, rfl⟩ | ⟨k, b, rfl, eb⟩⟩
  · exact d_notIn hu I g ry h
  · obtain ⟨hd, dd, _⟩ := empty_both I.hok em
    exact wpAny_notIn_of (kV_is ry) hd dd.mapOf (h _ (I.tok _))
  · cases (show u = Value.ref b from ry)
    obtain ⟨hd, _, dd⟩ := empty_both I.hok em
    exact wpAny_notIn_heap (tupleKind_room_in1 hu) (key_of I.hok eb) hd dd (h _ (I.tok _))
theorem d_get2E {Q : Value → Shared → Prop} (hu : A.units + 1 < cLine) (I : Inv X pins σ H s) (g : DGetE H a y o) (ry : RelV y u) (rd : RelV d r) (h : ∀ w' s', Inv X pins σ H s' → RelV (o.getD d) w' → Q w' s') :
    wpAny (model X.prog X.w) A (call (.builtin "dict.get") [.ref a, u, r]) Q E s := by
  rcases g with g | ⟨rfl, em, ⟨k, rfl⟩ | ⟨k, b, rfl, eb⟩⟩
  · exact d_get2 hu I g ry rd h
  · obtain ⟨hd, dd, _⟩ := empty_both I.hok em
    exact call_meetsIn PySem.F.slot_dict_get dd.typeIs PySem.F.entry_dict_get (PySem.F.args_dict_get_3 _ _ _) (meets_dict_get_default (mixKind X.prog X.w) a (kV_is ry) hd r) ⟨_, dd.mapOf, h _ _ (I.tok _) rd⟩
  · cases (show u = Value.ref b from ry)
    obtain ⟨hd, _, dd⟩ := empty_both I.hok em
    exact call_meetsIn PySem.F.slot_dict_get dd.typeIs PySem.F.entry_dict_get (PySem.F.args_dict_get_3 _ _ _) (meetsH_dict_get_default (tupleKind (mixKind X.prog X.w)) a b hd r) ⟨tupleKind_room_in1 hu, k, [], key_of I.hok eb, dd, h _ _ (I.tok _) rd⟩
theorem d_setItemE {H' : Hp} {Q : Unit → Shared → Prop} (hu : A.units + 1 < cLine) (I : Inv X pins σ H s) (g : DPutE H a y v H') (ry : RelV y u) (rv : RelV v r) (h : ∀ s', Inv X pins σ H' s' → Q () s') :
    wpAny (model X.prog X.w) A (setItem (.ref a) u r) Q E s := by
  rcases g with g | ⟨k, b, e, rfl, eb, rfl⟩ | ⟨k, e, rfl, rfl⟩
  · exact d_setItem hu I g ry rv h
  · cases (show u = Value.ref b from ry)
    obtain ⟨hd, _, dd⟩ := empty_both I.hok (.inl (.inl e))
    refine wpAny_setItem_heap (hsz := Nat.zero_le _) (tupleKind_room_in1 hu) (key_of I.hok eb) dd fun h' dd' hs => h _ ?_
    obtain ⟨q, es, ep, hq, h2, h3, h4, _, h5⟩ := dd'
    have rel0 : KT H ([] : List (List Key × V)) [] := .nil
    refine d_write I (by rw [e]; exact True.intro) hs ⟨q, hq⟩ ⟨by show 1 ≤ sizeLine; decide, hd, _, (KT.keeps (rel0.put k eb rv) fun c ys ec => ?_), q, es, ep, hq, h2, h3, h4, h5⟩
    rw [upd_ne (ne_of ec e (fun z => nomatch z))]
    exact ec
  · obtain ⟨hd, dd, _⟩ := empty_both I.hok (.inr (.inl e))
    refine wpAny_setItem_pairs (hsz := Nat.zero_le _) (kV_is ry) dd fun h' dd' hs => h _ ?_
    have he : ∃ q, h'.get? a = some q := let ⟨q, _, _, hq, _⟩ := dd'; ⟨q, hq⟩
    have rel0 : KV ([] : List (Key × V)) ([] : List (Key × Value)) := .nil
    exact d_write I (by rw [e]; exact True.intro) hs he (dk_new (by show 1 ≤ sizeLine; decide) hd (rel0.put k rv) dd')
end

/-! ### rules -/
/-- a key that is frozen can be asked for -/
theorem Dt.keyAt {K : PySem.W.Frag} {F H : Hp} {y : V} {k : D} (le : Same F H) (h : Dt K F y k) (ok : keyOk k = true) : (∃ i, k = kD i ∧ y = kV i) ∨ ∃ (is : List Key) (b : Addr), k = .tuple (is.map kD) ∧ y = .ref b ∧ H b = some (.tup (is.map kV)) := by
  rcases keyOk_cases ok with ⟨i, rfl⟩ | ⟨is, rfl⟩
  · exact .inl ⟨i, rfl, h.keyV⟩
  · cases h with
    | tup h1 h2 => exact .inr ⟨is, _, rfl, rfl, by rw [← h2.keysV]; exact le _ _ h1⟩
theorem Nw.dgetE {K : PySem.W.Frag} {sx : Sx} {F H : Hp} {x y : V} {es : List (D × D)} {k : D} (b : Base sx F H) (hx : Nw K F H x (.dict es)) (hy : Dt K F y k) (ok : keyOk k = true) (kd : kindOk es k = true) :
    ∃ a o, x = .ref a ∧ IsD H a ∧ DGetE H a y o ∧ RelD K F o (dGet es k) := by
  obtain ⟨a, rfl, hd⟩ := hx.dict b.le
  rcases hd with ⟨kvs, rd, hd⟩ | ⟨kvs, rd, hd⟩
  · rcases hy.keyAt b.le ok with ⟨i, rfl, rfl⟩ | ⟨is, c, rfl, rfl, hc⟩
    · exact ⟨a, _, rfl, .inl ⟨_, rd⟩, .inl (.inl ⟨kvs, i, rd, rfl, rfl⟩), hd.get i⟩
    · obtain ⟨rfl, rfl⟩ := hd.kind kd
      exact ⟨a, Option.none, rfl, .inl ⟨_, rd⟩, .inr ⟨rfl, .inl rd, .inr ⟨is, c, rfl, hc⟩⟩, trivial⟩
  · rcases hy.keyAt b.le ok with ⟨i, rfl, rfl⟩ | ⟨is, c, rfl, rfl, hc⟩
    · obtain ⟨rfl, rfl⟩ := hd.kind kd
      exact ⟨a, Option.none, rfl, .inr ⟨_, rd⟩, .inr ⟨rfl, .inr rd, .inl ⟨i, rfl⟩⟩, trivial⟩
    · exact ⟨a, _, rfl, .inr ⟨_, rd⟩, .inl (.inr ⟨kvs, is, c, rd, rfl, hc, rfl⟩), hd.get is⟩
theorem RelD.some {K : PySem.W.Frag} {F : Hp} {o : Option V} {d : D} (h : RelD K F o (some d)) : ∃ v, o = some v ∧ Dt K F v d := by
  cases o with
  | none => exact h.elim
  | some v => exact ⟨v, rfl, h⟩
theorem RelD.getD {K : PySem.W.Frag} {F : Hp} {o : Option V} {o' : Option D} {z : V} {d : D} (h : RelD K F o o') (hz : Dt K F z d) : Dt K F (o.getD z) (o'.getD d) := by
  cases o <;> cases o' <;> first | exact h.elim | skip
  · exact hz
  · exact h
theorem RelD.isSome {K : PySem.W.Frag} {F : Hp} {o : Option V} {o' : Option D} (h : RelD K F o o') : o.isSome = o'.isSome := by
  cases o <;> cases o' <;> first | exact h.elim | rfl
/-- d.get(k, z) -/
def tDGet2E (td ty tx : TE) : TE := fun σ H Q => td σ H fun x H1 => ∃ a, x = .ref a ∧ IsD H1 a ∧ ty σ H1 fun y H2 => tx σ H2 fun z H3 => ∃ o, DGetE H3 a y o ∧ Q (o.getD z) H3
def wGet2 (wd wk wz : WE) : WE := fun η Q => wd η fun d => match d with
  | .dict es => wk η fun k => wz η fun z => keyOk k = true ∧ kindOk es k = true ∧ Q ((dGet es k).getD z)
  | _ => False
/-- k in d, a dict; d[k] -/
def tDInE (ty td : TE) : TE := fun σ H Q => ty σ H fun y H1 => td σ H1 fun x H2 => ∃ a o, x = .ref a ∧ DGetE H2 a y o ∧ Q (.bl o.isSome) H2
def tDNotInE (ty td : TE) : TE := fun σ H Q => ty σ H fun y H1 => td σ H1 fun x H2 => ∃ a o, x = .ref a ∧ DGetE H2 a y o ∧ Q (.bl (!o.isSome)) H2
section
variable {X : Cx} {o e f i : Expr} {apos cpos pos : Pos} {td ty tx : TE} {wd wk wz : WE}
theorem pe_dget2E (hu : X.A.units + 1 < cLine) (ho : PE X o td) (he : PE X e ty) (hf : PE X f tx) (m : M2 X o "get" apos e f cpos) : PE X (.Call (.Attribute o "get" apos) [e, f] [] cpos) (tDGet2E td ty tx) := by
  refine ⟨fun pins s σ H Q I h => ?_⟩
  refine wpAny_Call_method m.base m.few m.line PySem.F.plainAttrs_dict PySem.F.slot_dict_get PySem.F.type_dict_get (thn (ho.run pins s σ H _ I h) fun u s1 ⟨x, H1, I1, rx, a, ex, d, q1⟩ => ?_)
  subst ex
  obtain rfl : u = Value.ref a := rx
  obtain ⟨t1, t2, _⟩ := isD_at I1 d
  refine ⟨t1, t2, ?_⟩
  rw [m.trees]
  refine Calls.callWith_builtin rfl (Calls.evalArgs_plain (Calls.spliced_cons (thn (he.run pins s1 σ H1 _ I1 q1) fun iv s2 ⟨y, H2, I2, ry, q2⟩ =>
    Calls.spliced_cons (thn (hf.run pins s2 σ H2 _ I2 q2) fun fv s3 ⟨z, H3, I3, rz, ov, g, q3⟩ => Calls.spliced_nil ?_))))
  exact d_get2E hu I3 g ry rz fun w' s4 I4 rw' => ⟨_, H3, I4, rw', q3⟩
theorem de_get2 (hu : X.A.units + 1 < cLine) (ho : DO X o td wd) (he : DE X e ty wk) (hf : DE X f tx wz) (m : M2 X o "get" apos e f cpos) : DE X (.Call (.Attribute o "get" apos) [e, f] [] cpos) (tDGet2E td ty tx) (wGet2 wd wk wz) :=
  ⟨pe_dget2E hu ho.pe he.pe hf.pe m, fun {sx H0 F0 F σ H η Q R} r hw k => ho.sem r hw fun d x F1 H1 q1 e1 o1 => by
    cases d <;> first | exact q1.elim | skip
    rename_i es
    have r1 := r.ext e1
    obtain ⟨a, rfl, hd⟩ := (o1.nw r1).dict r1.base.le
    refine ⟨a, rfl, ?_, he.sem r1 q1 fun kd y F2 H2 q2 e2 hy => hf.sem (r1.ext e2) q2 fun zd z F3 H3 q3 e3 hz => ?_⟩
    · rcases hd with ⟨kvs, rd, _⟩ | ⟨kvs, rd, _⟩
      · exact .inl ⟨_, rd⟩
      · exact .inr ⟨_, rd⟩
    · have r3 := (r1.ext e2).ext e3
      obtain ⟨a', ov, e, _, g, rel⟩ := Nw.dgetE r3.base ((o1.mono (e2.sF.trans e3.sF)).nw r3) (hy.mono e3.sF) q3.1 q3.2.1
      cases e
      exact ⟨ov, g, (k.ext ((e1.trans e2).trans e3)).now r3.base q3.2.2 (rel.getD hz)⟩⟩
end
/-- d[k] = v -/
def rSetD : V → V → V → Hp → (Hp → Prop) → Prop := fun o i v H Q => ∃ a H', o = .ref a ∧ DPutE H a i v H' ∧ Q H'
theorem set_dict {X : Cx} (hu : X.A.units + 1 < cLine) : PSet X rSetD := by
  intro pins s σ H o i v ov iv u Q I ro ri rv h
  obtain ⟨a, H', rfl, g, q⟩ := h
  obtain rfl : ov = Value.ref a := ro
  exact d_setItemE hu I g ri rv fun s4 I4 => ⟨H', I4, q⟩
theorem PSet.or {X : Cx} {t t' : TSet} (h : PSet X t) (h' : PSet X t') : PSet X (fun o i v H Q => t o i v H Q ∨ t' o i v H Q) := by
  intro pins s σ H o i v ov iv u Q I ro ri rv q
  rcases q with q | q
  · exact h pins s σ H o i v ov iv u Q I ro ri rv q
  · exact h' pins s σ H o i v ov iv u Q I ro ri rv q
def rSetA : TSet := fun o i v H Q => rSetL o i v H Q ∨ rSetD o i v H Q
theorem set_any {X : Cx} (hu : X.A.units + 1 < cLine) : PSet X rSetA := PSet.or set_list (set_dict hu)
def gSet : D → D → D → (D → Prop) → Prop
  | .list xs, .int k, v, Q => ∃ j, ixN xs.length k = some j ∧ Q (.list (xs.set j v))
  | .dict es, k, v, Q => keyOk k = true ∧ kindOk es k = true ∧ es.length < sizeLine ∧ Q (.dict (dPut es k v))
  | _, _, _, _ => False
theorem set_sem {K : PySem.W.Frag} {sx : Sx} {F H : Hp} {a : Addr} {y z : V} {d k v : D} {Q : D → Prop} {R : Hp → Prop} (b : Base sx F H) (ho : OwnAt K F H a d) (hy : Dt K F y k) (hz : Dt K F z v) (hg : gSet d k v Q)
    (kk : ∀ d' o', Q d' → OwnAt K F (upd H a o') a d' → R (upd H a o')) : rSetA (.ref a) y z H R := by
  cases d with
  | list xs =>
    obtain ⟨ys, h1, h2⟩ := ho
    cases k <;> first | exact hg.elim | skip
    obtain ⟨j, hj, q⟩ := hg
    cases hy
    exact .inl ⟨a, ys, _, j, rfl, rfl, h1, by rw [h2.length]; exact hj, kk _ _ q ⟨_, upd_same, h2.set hz j⟩⟩
  | dict es =>
    obtain ⟨g1, g2, g3, q⟩ := hg
    refine .inr ?_
    rcases ho with ⟨kvs, h1, h2⟩ | ⟨kvs, h1, h2⟩
    · rcases hy.keyAt b.le g1 with ⟨i, rfl, rfl⟩ | ⟨is, c, rfl, rfl, hc⟩
      · exact ⟨a, _, rfl, .inl (.inl ⟨kvs, i, h1, rfl, by rw [h2.length]; exact g3, rfl⟩), kk _ _ q (.inl ⟨_, upd_same, h2.put hz⟩)⟩
      · obtain ⟨rfl, rfl⟩ := h2.kind g2
        exact ⟨a, _, rfl, .inr (.inl ⟨is, c, h1, rfl, hc, rfl⟩), kk _ _ q (.inr ⟨_, upd_same, .cons hz .nil⟩)⟩
    · rcases hy.keyAt b.le g1 with ⟨i, rfl, rfl⟩ | ⟨is, c, rfl, rfl, hc⟩
      · obtain ⟨rfl, rfl⟩ := h2.kind g2
        exact ⟨a, _, rfl, .inr (.inr ⟨i, h1, rfl, rfl⟩), kk _ _ q (.inl ⟨_, upd_same, .cons hz .nil⟩)⟩
      · exact ⟨a, _, rfl, .inl (.inr ⟨kvs, is, c, h1, rfl, hc, by rw [h2.length]; exact g3, rfl⟩), kk _ _ q (.inr ⟨_, upd_same, h2.put hz⟩)⟩
  | _ => exact ho.elim
/-- x[k] = v, x a slot with an object of its own -/
def wStore (i : Nat) (wk wv : WE) : WS := fun W η => match η[i]? with
  | some (.ow d) => wv η fun v => wk η fun k => gSet d k v fun d' => W.nx (η.set i (.ow d'))
  | _ => False
theorem sem_store {K : PySem.W.Frag} {i : Nat} {tk tv : TE} {wk wv : WE} (hk : SemE K tk wk) (hv : SemE K tv wv) : SemS K (tAsg tv (gSub (tVar i) tk rSetA)) (wStore i wk wv) := fun {sx H0 F0 F σ H η W R} r hw k => by
  unfold wStore at hw
  split at hw
  · rename_i d hi
    refine hv r hw fun v z F1 H1 q1 e1 hz => ?_
    have r1 := r.ext e1
    obtain ⟨sv, hs, a, rfl, ho⟩ := r1.val hi
    refine ⟨.ref a, hs, hk r1 q1 fun kd y F2 H2 q2 e2 hy => ?_⟩
    have r2 := r1.ext e2
    obtain ⟨sv', hs', a', e, ho', _⟩ := r2.val hi
    rw [hs] at hs'
    cases hs'
    cases e
    exact set_sem r2.base ho' hy (hz.mono e2.sF) q2 fun d' o' q' ho'' => k.nx _ _ _ _ q' (e1.sF.trans e2.sF) (r2.put hi hs ho'')
  · exact hw.elim
section
variable {X : Cx} {e i : Expr} {pos opos spos : Pos} {ti tv : TE} {wk wv : WE}
theorem ds_store (j : Nat) {x : Str} (hu : X.A.units + 1 < cLine) (hv : DE X e tv wv) (hk : DE X i ti wk) (hn : PE X (.Name x opos) (tVar j))
    (ha : ∀ v, assign (.Subscript (.Name x opos) i spos) X.env v = (do
      let ov ← holding [v] (eval (.Name x opos) X.env)
      let iv ← holding [v, ov] (eval i X.env)
      standAt spos
      holding [v, ov, iv] (setItem ov iv v)
      release [v, ov, iv] []) := by intros; rfl)
    (hs : swapsWithSole [.Subscript (.Name x opos) i spos] e pos.line X.env = pure false := by rfl) (hw : swappedStores [.Subscript (.Name x opos) i spos] e X.env = pure none := by rfl)
    (h1 : (assignEach [.Subscript (.Name x opos) i spos] X.env).map (·.2) = [assign (.Subscript (.Name x opos) i spos) X.env] := by rfl) :
    DS X (.Assign [.Subscript (.Name x opos) i spos] e pos) (tAsg tv (gSub (tVar j) ti rSetA)) (wStore j wk wv) :=
  ⟨ps_asg hv.pe (pg_sub hn hk.pe (set_any hu) ha) hs hw h1, sem_store hk.sem hv.sem⟩
end

/-! ### methods that change a slot's own list -/
/-- a method of a list that changes it -/
def MutSem (K : PySem.W.Frag) (r : V → List V → Hp → VK → Prop) (g : D → List D → (D → D → Prop) → Prop) : Prop :=
  ∀ {sx : Sx} {F H : Hp} {a : Addr} {vs : List V} {d : D} {ds : List D} {Q : D → D → Prop} {R : VK}, Base sx F H → OwnAt K F H a d → DtL K F vs ds → g d ds Q → (∀ d' y v o', Q d' y → OwnAt K F (upd H a o') a d' → Dt K F v y → R v (upd H a o')) → r (.ref a) vs H R
def gAppend : D → List D → (D → D → Prop) → Prop
  | .list xs, [y], Q => xs.length < sizeLine ∧ Q (.list (xs ++ [y])) .none
  | _, _, _ => False
theorem ms_append {K : PySem.W.Frag} : MutSem K rAppend gAppend := fun {sx F H a vs d ds Q R} b ho hv hg k => by
  cases d <;> first | exact hg.elim | skip
  cases hv with
  | nil => exact hg.elim
  | cons h1 ht =>
    cases ht with
    | cons _ _ => exact hg.elim
    | nil =>
      obtain ⟨xs, hH, hd⟩ := ho
      exact ⟨a, xs, _, rfl, rfl, hH, by rw [hd.length]; exact hg.1, k _ _ _ _ hg.2 ⟨_, upd_same, hd.append (.one h1)⟩ .non⟩
def gExtend : D → List D → (D → D → Prop) → Prop
  | .list xs, [.list ys], Q => xs.length + ys.length ≤ sizeLine ∧ Q (.list (xs ++ ys)) .none
  | _, _, _ => False
theorem ms_extend {K : PySem.W.Frag} : MutSem K rExtend gExtend := fun {sx F H a vs d ds Q R} b ho hv hg k => by
  cases d <;> first | exact hg.elim | skip
  cases hv with
  | nil => exact hg.elim
  | cons h1 ht =>
    cases ht with
    | cons _ _ => rename_i d1 _ _ _ _ _ _; cases d1 <;> exact hg.elim
    | nil =>
      rename_i d1
      cases d1 <;> first | exact hg.elim | skip
      obtain ⟨xs, hH, hd⟩ := ho
      cases h1 with
      | lst h2 h3 => exact ⟨a, _, xs, _, rfl, rfl, hH, b.le _ _ h2, by rw [hd.length, h3.length]; exact hg.1, k _ _ _ _ hg.2 ⟨_, upd_same, hd.append h3⟩ .non⟩
def gPop : D → List D → (D → D → Prop) → Prop
  | .list xs, [], Q => ∃ y, xs[xs.length - 1]? = some y ∧ Q (.list xs.dropLast) y
  | _, _, _ => False
theorem DtL.dropLast {K : PySem.W.Frag} {F : Hp} {vs : List V} {ds : List D} (h : DtL K F vs ds) : DtL K F vs.dropLast ds.dropLast := by
  rw [List.dropLast_eq_take, List.dropLast_eq_take, h.length]
  exact h.take _
theorem ms_pop {K : PySem.W.Frag} : MutSem K rPop gPop := fun {sx F H a vs d ds Q R} b ho hv hg k => by
  cases d <;> first | exact hg.elim | skip
  cases hv with
  | cons _ _ => exact hg.elim
  | nil =>
    obtain ⟨y, hy, q⟩ := hg
    obtain ⟨xs, hH, hd⟩ := ho
    obtain ⟨v, h1, h2⟩ := hd.get _ hy
    exact ⟨a, xs, v, rfl, rfl, hH, by rw [hd.length]; exact h1, k _ _ _ _ q ⟨_, upd_same, hd.dropLast⟩ h2⟩
/-- x.m(e) as a statement -/
def wMut (i : Nat) (g : D → List D → (D → D → Prop) → Prop) (wa : WA) : WS := fun W η => match η[i]? with
  | some (.ow d) => wa η fun ds => g d ds fun d' _ => W.nx (η.set i (.ow d'))
  | _ => False
theorem own_list {K : PySem.W.Frag} {F H : Hp} {a : Addr} {d : D} (h : OwnAt K F H a d) (hl : ∃ ds, d = .list ds) : tyV K "list" (.ref a) H := by
  obtain ⟨ds, rfl⟩ := hl
  obtain ⟨xs, h1, _⟩ := h
  exact .inl ⟨rfl, xs, SqL.of h1⟩
def IsLst : D → Bool
  | .list _ => true
  | _ => false
def wMutE (i : Nat) (g : D → List D → (D → D → Prop) → Prop) (wa : WA) (wg : WG) : WS := fun W η => match η[i]? with
  | some (.ow d) => IsLst d = true ∧ wa η fun ds => g d ds fun d' y => wg y (η.set i (.ow d')) W.nx
  | _ => False
theorem sem_mutE {K : PySem.W.Frag} {i : Nat} {r : V → List V → Hp → VK → Prop} {g : D → List D → (D → D → Prop) → Prop} {ta : TA} {wa : WA} {tg : TG} {wg : WG} {L : List Nat} (ms : MutSem K r g) (ha : SemB K ta wa) (hg : SemG K tg wg L) : SemS K (tAsg (tBM K "list" r (tVar i) ta) tg) (wMutE i g wa wg) := fun {sx H0 F0 F σ H η W R} rp hw k => by
  unfold wMutE at hw
  split at hw
  · rename_i d hi
    obtain ⟨sv, hs, a, rfl, ho, _⟩ := rp.val hi
    refine ⟨.ref a, hs, own_list ho (by cases d <;> first | exact ⟨_, rfl⟩ | (cases hw.1)), ha rp hw.2 fun ds vs F1 H1 q1 e1 hv => ?_⟩
    have r1 := rp.ext e1
    obtain ⟨sv', hs', a', e, ho', _⟩ := r1.val hi
    rw [hs] at hs'
    cases hs'
    cases e
    exact ms r1.base ho' hv q1 fun d' y v o' q' ho'' hy => hg (r1.put hi hs ho'') hy q' fun σ' η' q2 r2 _ => k.nx _ _ _ _ q2 e1.sF r2
  · exact hw.elim
def tgDrop : TG := fun _ σ H Q => Q σ H
theorem sem_drop {K : PySem.W.Frag} : SemG K tgDrop (fun _ η Q => Q η) [] := fun r h hw k => k _ _ hw r fun _ _ => rfl
section
variable {X : Cx} {e : Expr} {es : List Expr} {ta : TA} {wa : WA} {r : V → List V → Hp → VK → Prop} {g : D → List D → (D → D → Prop) → Prop} {name : Str} {apos cpos pos : Pos} {id : String} {o : Expr}
theorem ds_mut (i : Nat) (ms : MutSem X.K r g) (ha : DB X (e :: es) ta wa)
    (hp : PE X (.Call (.Attribute o name apos) (e :: es) [] cpos) (tBM X.K "list" r (tVar i) ta)) (hs : swapsWith (.Call (.Attribute o name apos) (e :: es) [] cpos) none pos.line X.env = pure false := by rfl) :
    DS X (.Expr (.Call (.Attribute o name apos) (e :: es) [] cpos) pos) (tAsg (tBM X.K "list" r (tVar i) ta) tgDrop) (wMutE i g wa fun _ η Q => Q η) :=
  ⟨ps_expr hp hs, sem_mutE ms ha.sem sem_drop⟩
end
end W2

set_option Elab.async false
set_option linter.all false
set_option maxRecDepth 100000
/-! W2G: subscripts, slices, built-in calls, what a def promises, calls of defs. -/
namespace W2
open PySem PySem.Spec PyProof.Rows L2

/-! ### a list's, a tuple's, a text's item -/
def gIx : D → D → (D → Prop) → Prop
  | .list ds, .int i, Q => ∃ d, atI ds i = some d ∧ Q d
  | .tuple ds, .int i, Q => ∃ d, atI ds i = some d ∧ Q d
  | .str z, .int i, Q => z.length ≤ sizeLine ∧ ∃ c, atI z.cps.toList i = some c ∧ Q (.str ⟨#[c]⟩)
  | _, _, _ => False
theorem DtL.atI {K : PySem.W.Frag} {F : Hp} {vs : List V} {ds : List D} (h : DtL K F vs ds) {i : Int} {d : D} (e : L2.atI ds i = some d) : ∃ v, L2.atI vs i = some v ∧ Dt K F v d := by
  unfold L2.atI at e ⊢
  rw [h.length]
  cases q : ixN ds.length i with
  | none => rw [q] at e; cases e
  | some j =>
    rw [q] at e
    exact h.get j e
theorem rs_ix {K : PySem.W.Frag} : RSem K (rIx K) gIx := fun {sx F H x y dx dy Q R} b hx hy hg k => by
  cases dx <;> cases dy <;> first | exact hg.elim | skip
  · cases hx.str; cases hy.int
    obtain ⟨hl, c, e, q⟩ := hg
    exact .inr (.inr ⟨_, _, c, rfl, rfl, hl, e, k.now b q (.str _)⟩)
  · obtain ⟨a, xs, rfl, h1, h2⟩ := hx.list b.le
    cases hy.int
    obtain ⟨d, e, q⟩ := hg
    obtain ⟨v, e', hv⟩ := h2.atI e
    exact .inl ⟨a, xs, _, v, rfl, rfl, SqL.of h1, e', k.now b q hv⟩
  · obtain ⟨a, xs, rfl, h1, h2⟩ := hx.tupleH b.le
    cases hy.int
    obtain ⟨d, e, q⟩ := hg
    obtain ⟨v, e', hv⟩ := h2.atI e
    exact .inr (.inl ⟨a, xs, _, v, rfl, rfl, h1, e', k.now b q hv⟩)
section
variable {X : Cx} {a b : Expr} {ta tb : TE} {wa wb : WE} {pos : Pos}
theorem de_ix (hs : PlainIx b) (ha : DO X a ta wa) (hb : DO X b tb wb) : DE X (.Subscript a b pos) (tOp (rIx X.K) ta tb) (w2 gIx wa wb) := ⟨pe_ix ix_seq ha.pe hb.pe hs, sem_op rs_ix ha.sem hb.sem⟩
end
/-- d[k] -/
def tDGetE (td ty : TE) : TE := fun σ H Q => td σ H fun x H1 => ty σ H1 fun y H2 => ∃ a v, x = .ref a ∧ DGetE H2 a y (some v) ∧ Q v H2
def gIxD : D → D → (D → Prop) → Prop
  | .dict es, k, Q => keyOk k = true ∧ kindOk es k = true ∧ ∃ d, dGet es k = some d ∧ Q d
  | _, _, _ => False
section
variable {X : Cx} {o i : Expr} {pos : Pos} {td ty : TE} {wd wk : WE}
theorem dict_typeIsE {pins : List (Addr × Obj)} {σ : L2.St} {H : Hp} {s : Shared} {a : Addr} {y : V} {r : Option V} (I : Inv X pins σ H s) (g : DGetE H a y r) : s.TypeIs (.ref a) "dict" := by
  rcases g with g | ⟨_, em, _⟩
  · exact dict_typeIs I g
  · obtain ⟨_, dd, _⟩ := empty_both I.hok em
    exact dd.typeIs
theorem pe_dgetE (hu : X.A.units + 1 < cLine) (ho : PE X o td) (hi : PE X i ty) (hs : NoSl i) : PE X (.Subscript o i pos) (tDGetE td ty) := by
  refine ⟨fun pins s σ H Q I h => ?_⟩
  refine subD_of PySem.F.slot_dict_getitem.lookup hs (thn (ho.run pins s σ H _ I h) fun u s1 ⟨x, H1, I1, rx, q1⟩ => thn (hi.run pins s1 σ H1 _ I1 q1) fun iv s2 ⟨y, H2, I2, ry, a, v, ex, g, q2⟩ => ?_)
  subst ex
  obtain rfl : u = Value.ref a := rx
  exact ⟨dict_typeIsE I2 g, d_getItemE hu I2 g ry fun w' s3 I3 rw' => ⟨v, H2, I3, rw', q2⟩⟩
def wIxD (wd wk : WE) : WE := fun η Q => wd η fun d => wk η fun k => gIxD d k Q
theorem de_ixD (hu : X.A.units + 1 < cLine) (hs : NoSl i) (ho : DO X o td wd) (hi : DE X i ty wk) : DE X (.Subscript o i pos) (tDGetE td ty) (wIxD wd wk) :=
  ⟨pe_dgetE hu ho.pe hi.pe hs, fun {sx H0 F0 F σ H η Q R} r hw k => ho.sem r hw fun d x F1 H1 q1 e1 o1 => hi.sem (r.ext e1) q1 fun kd y F2 H2 q2 e2 hy => by
    cases d <;> first | exact q2.elim | skip
    have r2 := (r.ext e1).ext e2
    obtain ⟨g1, g2, z, g3, q⟩ := q2
    obtain ⟨a, ov, rfl, _, g, rel⟩ := Nw.dgetE r2.base ((o1.mono e2.sF).nw r2) hy g1 g2
    rw [g3] at rel
    obtain ⟨v, rfl, hv⟩ := rel.some
    exact ⟨a, v, rfl, g, (k.ext (e1.trans e2)).now r2.base q hv⟩⟩
/-- either: by what the value is -/
theorem pe_or {X : Cx} {e : Expr} {t t' : TE} (h : PE X e t) (h' : PE X e t') : PE X e (fun σ H Q => t σ H Q ∨ t' σ H Q) := ⟨fun pins s σ H Q I hw => by
  rcases hw with hw | hw
  · exact h.run pins s σ H Q I hw
  · exact h'.run pins s σ H Q I hw⟩
/-- k in d, k not in d -/
def rDIn (neg : Bool) : R2 := fun y x H Q => ∃ a o, x = .ref a ∧ DGetE H a y o ∧ Q (.bl (if neg then !o.isSome else o.isSome)) H
theorem op_dIn (hu : X.A.units + 1 < cLine) : OpR X (compareOp .In) (rDIn false) := by
  intro pins s σ H y x v u Q I ry rx h
  obtain ⟨a, o, rfl, g, q⟩ := h
  obtain rfl : u = Value.ref a := rx
  exact d_inE hu I g ry fun s' I' => ⟨.bl _, H, I', rfl, q⟩
theorem op_dNotIn (hu : X.A.units + 1 < cLine) : OpR X (compareOp .NotIn) (rDIn true) := by
  intro pins s σ H y x v u Q I ry rx h
  obtain ⟨a, o, rfl, g, q⟩ := h
  obtain rfl : u = Value.ref a := rx
  exact d_notInE hu I g ry fun s' I' => ⟨.bl _, H, I', rfl, q⟩
end
/-- in, not in: a list, a tuple, a dict -/
def rInT (K : PySem.W.Frag) (neg : Bool) : R2 := fun x y H Q => ∃ d ds, Dp K H x d ∧ Dp K H y (.tuple ds) ∧ SeqAt.shaped d = true ∧ SeqAt.shaped (.tuple ds) = true ∧ Q (.bl (if neg then !ds.any (fun z => PyData.eqv z d) else ds.any fun z => PyData.eqv z d)) H
theorem op_inTup {X : Cx} (hu : X.A.units + 65 < cLine) : OpR X (compareOp .In) (rInT X.K false) := fun pins s σ H x y v u Q I rx ry h => by
  obtain ⟨d, ds, hd, he, sd, se, q⟩ := h
  obtain ⟨_, r1⟩ := Dp.reads I d x v hd rx
  obtain ⟨_, r2⟩ := Dp.reads I _ y u he ry
  exact SeqAt.in_tuple_reads r2 r1 (SeqAt.canLay_of_shaped se) (SeqAt.canLay_of_shaped sd) (PyProof.Rows.room_in_shaped sd hu) ⟨.bl _, H, I, rfl, q⟩
theorem op_notInTup {X : Cx} (hu : X.A.units + 65 < cLine) : OpR X (compareOp .NotIn) (rInT X.K true) := fun pins s σ H x y v u Q I rx ry h => by
  obtain ⟨d, ds, hd, he, sd, se, q⟩ := h
  obtain ⟨_, r1⟩ := Dp.reads I d x v hd rx
  obtain ⟨_, r2⟩ := Dp.reads I _ y u he ry
  exact SeqAt.notIn_tuple_reads r2 r1 (SeqAt.canLay_of_shaped se) (SeqAt.canLay_of_shaped sd) (PyProof.Rows.room_in_shaped sd hu) ⟨.bl _, H, I, rfl, q⟩
def rInA (K : PySem.W.Frag) : R2 := fun x y H Q => rInD K x y H Q ∨ rInT K false x y H Q ∨ rDIn false x y H Q
def rNotInA (K : PySem.W.Frag) : R2 := fun x y H Q => rNotInD K x y H Q ∨ rInT K true x y H Q ∨ rDIn true x y H Q
theorem op_inA {X : Cx} (hu : X.A.units + 65 < cLine) : OpR X (compareOp .In) (rInA X.K) := OpR.or (op_inD hu) (OpR.or (op_inTup hu) (op_dIn (by omega)))
theorem op_notInA {X : Cx} (hu : X.A.units + 65 < cLine) : OpR X (compareOp .NotIn) (rNotInA X.K) := OpR.or (op_notInD hu) (OpR.or (op_notInTup hu) (op_dNotIn (by omega)))
def gInA (neg : Bool) : D → D → (D → Prop) → Prop
  | x, .list ds, Q => SeqAt.shaped x = true ∧ SeqAt.shaped (.list ds) = true ∧ Q (.bool (if neg then !ds.any (fun z => PyData.eqv z x) else ds.any fun z => PyData.eqv z x))
  | x, .tuple ds, Q => SeqAt.shaped x = true ∧ SeqAt.shaped (.tuple ds) = true ∧ Q (.bool (if neg then !ds.any (fun z => PyData.eqv z x) else ds.any fun z => PyData.eqv z x))
  | x, .dict es, Q => keyOk x = true ∧ kindOk es x = true ∧ Q (.bool (if neg then !(dGet es x).isSome else (dGet es x).isSome))
  | _, _, _ => False
/-- a two-place reading whose first place is frozen -/
def RSem1 (K : PySem.W.Frag) (r : R2) (g : D → D → (D → Prop) → Prop) : Prop :=
  ∀ {sx : Sx} {F H : Hp} {x y : V} {dx dy : D} {Q : D → Prop} {R : VK}, Base sx F H → Dt K F x dx → Nw K F H y dy → g dx dy Q → Cont K sx F H Q R → r x y H R
theorem sem_op1 {K : PySem.W.Frag} {r : R2} {g : D → D → (D → Prop) → Prop} {ta tb : TE} {wa wb : WE} (hs : RSem1 K r g) (ha : SemE K ta wa) (hb : SemO K tb wb) : SemE K (tOp r ta tb) (w2 g wa wb) := fun {sx H0 F0 F σ H η Q R} rp hw k =>
  ha rp hw fun dx x F1 H1 q1 e1 o1 => hb (rp.ext e1) q1 fun dy y F2 H2 q2 e2 o2 =>
    let r2 := (rp.ext e1).ext e2
    hs r2.base (o1.mono e2.sF) (o2.nw r2) q2 (k.ext (e1.trans e2))
theorem rs_in {K : PySem.W.Frag} : RSem1 K (rInA K) (gInA false) := fun {sx F H x y dx dy Q R} b hx hy hg k => by
  cases dy <;> first | exact hg.elim | skip
  · obtain ⟨h1, h2, q⟩ := hg
    exact .inl ⟨_, _, hx.dp b.le (SeqAt.canLay_of_shaped h1), hy.dp b.le (SeqAt.canLay_of_shaped h2), h1, h2, k.now b q (.bl _)⟩
  · obtain ⟨h1, h2, q⟩ := hg
    exact .inr (.inl ⟨_, _, hx.dp b.le (SeqAt.canLay_of_shaped h1), hy.dp b.le (SeqAt.canLay_of_shaped h2), h1, h2, k.now b q (.bl _)⟩)
  · obtain ⟨h1, h2, q⟩ := hg
    obtain ⟨a, o, rfl, _, g, rel⟩ := Nw.dgetE b hy hx h1 h2
    refine .inr (.inr ⟨a, o, rfl, g, k.now b (d := .bool (dGet _ dx).isSome) q ?_⟩)
    rw [← rel.isSome]
    exact .bl _
theorem rs_notIn {K : PySem.W.Frag} : RSem1 K (rNotInA K) (gInA true) := fun {sx F H x y dx dy Q R} b hx hy hg k => by
  cases dy <;> first | exact hg.elim | skip
  · obtain ⟨h1, h2, q⟩ := hg
    exact .inl ⟨_, _, hx.dp b.le (SeqAt.canLay_of_shaped h1), hy.dp b.le (SeqAt.canLay_of_shaped h2), h1, h2, k.now b q (.bl _)⟩
  · obtain ⟨h1, h2, q⟩ := hg
    exact .inr (.inl ⟨_, _, hx.dp b.le (SeqAt.canLay_of_shaped h1), hy.dp b.le (SeqAt.canLay_of_shaped h2), h1, h2, k.now b q (.bl _)⟩)
  · obtain ⟨h1, h2, q⟩ := hg
    obtain ⟨a, o, rfl, _, g, rel⟩ := Nw.dgetE b hy hx h1 h2
    refine .inr (.inr ⟨a, o, rfl, g, k.now b (d := .bool (!(dGet _ dx).isSome)) q ?_⟩)
    rw [← rel.isSome]
    exact .bl _
section
variable {X : Cx} {a b : Expr} {ta tb : TE} {wa wb : WE} {pos : Pos}
theorem de_cmp1 {op : CmpOp} {r : R2} {g : D → D → (D → Prop) → Prop} (ho : OpR X (compareOp op) r) (hs : RSem1 X.K r g) (hm : behindInMarks op b = false) (ha : DE X a ta wa) (hb : DO X b tb wb) : DE X (.Compare a [op] [b] pos) (tOp r ta tb) (w2 g wa wb) := ⟨pe_cmpR ho ha.pe hb.pe hm, sem_op1 hs ha.sem hb.sem⟩
theorem dt_cmp1 {op : CmpOp} {r : R2} {g : D → D → (D → Prop) → Prop} (ho : OpR X (compareOp op) r) (hs : RSem1 X.K r g) (hm : behindInMarks op b = false) (ha : DE X a ta wa) (hb : DO X b tb wb) : DTs X (.Compare a [op] [b] pos) (tTest (tOp r ta tb)) (wTrB (w2 g wa wb)) :=
  ⟨pt_cmpR ho ha.pe hb.pe hm, sem_testB (sem_op1 hs ha.sem hb.sem)⟩
end

/-! ### slices -/
def cutD (ds : List D) (lo hi : Option Int) : List D := (ds.drop (HT.sIx ds.length 0 lo)).take (HT.sIx ds.length ds.length hi - HT.sIx ds.length 0 lo)
theorem DtL.cut {K : PySem.W.Frag} {F : Hp} {vs : List V} {ds : List D} (h : DtL K F vs ds) (lo hi : Option Int) : DtL K F (cutV vs lo hi) (cutD ds lo hi) := by
  unfold cutV cutD
  rw [h.length]
  exact (h.drop _).take _
abbrev WO := En → (Option Int → Prop) → Prop
def SemPO (K : PySem.W.Frag) (t : TO) (w : WO) : Prop := ∀ {sx : Sx} {H0 F0 F : Hp} {σ : L2.St} {H : Hp} {η : En} {Q : Option Int → Prop} {R : Option Int → Hp → Prop}, Rep K sx H0 F0 F σ H η → w η Q → (∀ b F' H', Q b → Ext2 sx F H F' H' → R b H') → t σ H R
structure DPO (X : Cx) (e : Option Expr) (t : TO) (w : WO) : Prop where
  po : PO X e t
  sem : SemPO X.K t w
def wNoPart : WO := fun _ Q => Q none
def wPart (we : WE) : WO := fun η Q => we η fun d => match d with
  | .int i => Q (some i)
  | _ => False
def gSl (d : D) (lo hi : Option Int) (Q : D → Prop) : Prop := match d with
  | .list ds => Q (.list (cutD ds lo hi))
  | .tuple ds => Q (.tuple (cutD ds lo hi))
  | _ => False
def wSl (we : WE) (wl wh : WO) : WE := fun η Q => we η fun d => wl η fun lo => wh η fun hi => gSl d lo hi Q
def gSlL (d : D) (lo hi : Option Int) (Q : D → Prop) : Prop := match d with
  | .list ds => Q (.list (cutD ds lo hi))
  | _ => False
def wSlL (we : WE) (wl wh : WO) : WE := fun η Q => we η fun d => wl η fun lo => wh η fun hi => gSlL d lo hi Q
def rSlB (K : PySem.W.Frag) : V → Option Int → Option Int → Hp → VK → Prop := fun x lo hi H Q => rSlL K x lo hi H Q ∨ rSlA K x lo hi H Q
section
variable {X : Cx} {e : Expr} {lo hi : Option Expr} {te : TE} {we : WE} {tl th : TO} {wl wh : WO} {pos p2 : Pos}
theorem dpo_none : DPO X none tNoPart wNoPart := ⟨po_none, fun r hw k => k none _ _ hw (.refl r.base)⟩
theorem dpo_some (h : DO X e te we) : DPO X (some e) (tPart te) (wPart we) := ⟨po_some h.pe, fun {sx H0 F0 F σ H η Q R} r hw k => h.sem r hw fun d v F1 H1 q e o => by
  cases d <;> first | exact q.elim | skip
  cases (o.nw (r.ext e)).int
  exact ⟨_, rfl, k _ F1 H1 q e⟩⟩
theorem DtL.cut_all {K : PySem.W.Frag} {F : Hp} {vs : List V} {ds : List D} (h : DtL K F vs ds) {lo hi : Option Int} (c : HT.sIx vs.length 0 lo = 0 ∧ HT.sIx vs.length vs.length hi = vs.length) : cutD ds lo hi = ds := by
  unfold cutD
  rw [← h.length, c.1, c.2, List.drop_zero, Nat.sub_zero, h.length, List.take_length]
theorem de_slice (he : DO X e te we) (hl : DPO X lo tl wl) (hh : DPO X hi th wh) : DE X (.Subscript e (.Slice lo hi none p2) pos) (tSl (rSlB X.K) te tl th) (wSl we wl wh) :=
  ⟨pe_slice (SlR.or sl_list sl_tupA) he.pe hl.po hh.po, fun {sx H0 F0 F σ H η Q R} r hw k => he.sem r hw fun d v F1 H1 q1 e1 o1 => hl.sem (r.ext e1) q1 fun l F2 H2 q2 e2 => hh.sem ((r.ext e1).ext e2) q2 fun u F3 H3 q3 e3 => by
    have r3 := ((r.ext e1).ext e2).ext e3
    have k3 := k.ext ((e1.trans e2).trans e3)
    have nw := (o1.mono (e2.sF.trans e3.sF)).nw r3
    cases d <;> first | exact q3.elim | skip
    · obtain ⟨a, xs, rfl, h1, h2⟩ := nw.list r3.base.le
      exact .inl ⟨a, xs, rfl, SqL.of h1, k3.list.new r3.base q3 (h2.cut _ _)⟩
    · obtain ⟨a, xs, rfl, h1, h2⟩ := nw.tuple
      refine .inr ⟨a, xs, rfl, SqT.of (r3.base.le _ _ h1), fun c => ?_, fun _ => k3.tup r3.base q3 (h2.cut _ _)⟩
      have q3' : Q (.tuple _) := q3
      rw [h2.cut_all c] at q3'
      exact k3.now r3.base q3' (.tup h1 h2)⟩
theorem dl_slice (he : DO X e te we) (hl : DPO X lo tl wl) (hh : DPO X hi th wh) : DL X (.Subscript e (.Slice lo hi none p2) pos) (tSl (rSlL X.K) te tl th) (wSlL we wl wh) :=
  ⟨pe_slice sl_list he.pe hl.po hh.po, fun {sx H0 F0 F σ H η Q R} r hw k => he.sem r hw fun d v F1 H1 q1 e1 o1 => hl.sem (r.ext e1) q1 fun l F2 H2 q2 e2 => hh.sem ((r.ext e1).ext e2) q2 fun u F3 H3 q3 e3 => by
    have r3 := ((r.ext e1).ext e2).ext e3
    have k3 := k.ext ((e1.trans e2).trans e3)
    have nw := (o1.mono (e2.sF.trans e3.sF)).nw r3
    cases d <;> first | exact q3.elim | skip
    obtain ⟨a, xs, rfl, h1, h2⟩ := nw.list r3.base.le
    exact ⟨a, xs, rfl, SqL.of h1, k3.new r3.base q3 (h2.cut _ _)⟩⟩
/-- xs[::-1] of a list -/
def wRevL (we : WE) : WE := fun η Q => we η fun d => match d with
  | .list ds => Q (.list ds.reverse)
  | _ => False
theorem dl_rev {k : Nat} {p1 p3 p4 : Pos} (he : DO X e te we) : DL X (.Subscript e (.Slice none none (some (.UnaryOp .USub (.Constant (.int 1) k p1) p2)) p3) pos) (tRevL X.K te) (wRevL we) :=
  ⟨pe_revL he.pe, fun {sx H0 F0 F σ H η Q R} r hw k => he.sem r hw fun d v F1 H1 q e o => by
    cases d <;> first | exact q.elim | skip
    obtain ⟨a, xs, rfl, h1, h2⟩ := (o.nw (r.ext e)).list (r.ext e).base.le
    exact ⟨a, xs, rfl, SqL.of h1, (k.ext e).new (r.ext e).base q h2.reverse⟩⟩
end

/-! ### calls of built-ins -/
def CSem (K : PySem.W.Frag) (r : List V → Hp → VK → Prop) (g : List D → (D → Prop) → Prop) : Prop :=
  ∀ {sx : Sx} {F H : Hp} {vs : List V} {ds : List D} {Q : D → Prop} {R : VK}, Base sx F H → Paired (Nw K F H) vs ds → g ds Q → Cont K sx F H Q R → r vs H R
def CSemL (K : PySem.W.Frag) (r : List V → Hp → VK → Prop) (g : List D → (D → Prop) → Prop) : Prop :=
  ∀ {sx : Sx} {F H : Hp} {vs : List V} {ds : List D} {Q : D → Prop} {R : VK}, Base sx F H → Paired (Nw K F H) vs ds → g ds Q → ContL K sx F H Q R → r vs H R
def wCall (g : List D → (D → Prop) → Prop) (wa : WA) : WE := fun η Q => wa η fun ds => g ds Q
section
variable {X : Cx} {e : Expr} {es : List Expr} {ta : TA} {wa : WA} {r : List V → Hp → VK → Prop} {g : List D → (D → Prop) → Prop} {x : Str} {p pos : Pos} {id T : String}
theorem OpL.nws {K : PySem.W.Frag} {sx : Sx} {H0 F0 F H : Hp} {σ : L2.St} {η : En} {vs : List V} {ds : List D} (h : OpL K F σ η vs ds) (r : Rep K sx H0 F0 F σ H η) : Paired (Nw K F H) vs ds := Paired.mapP h fun _ _ z => z.nw r
theorem sem_cb {K : PySem.W.Frag} (hs : CSem K r g) (ha : SemA K ta wa) : SemE K (tCB r ta) (wCall g wa) := fun {sx H0 F0 F σ H η Q R} rp hw k => ha rp hw fun ds vs F1 H1 q e o => hs (rp.ext e).base (o.nws (rp.ext e)) q (k.ext e)
theorem sem_cbL {K : PySem.W.Frag} (hs : CSemL K r g) (ha : SemA K ta wa) : SemL K (tCB r ta) (wCall g wa) := fun {sx H0 F0 F σ H η Q R} rp hw k => ha rp hw fun ds vs F1 H1 q e o => hs (rp.ext e).base (o.nws (rp.ext e)) q (k.ext e)
theorem de_callB (hc : CallR X (.builtin id) r) (hs : CSem X.K r g) (hv : bootBuiltins x = some (.builtin id)) (hg : Gl X x) (hm : X.mg x = none) (ha : DA X (e :: es) ta wa) (hn : x ≠ "__name__" := by decide) (hdb : (x == ("__debug__" : Str)) = false := by decide)
    (he : starEach (e :: es) X.env = (false, eval e X.env) :: starEach es X.env := by rfl) (hpl : (backTo pos (starEach es X.env)).any (·.1) = false := by rfl) : DE X (.Call (.Name x p) (e :: es) [] pos) (tCB r ta) (wCall g wa) :=
  ⟨pe_callB hc hg hm hv ha.pa hn hdb he hpl, sem_cb hs ha.sem⟩
theorem de_callT (hc : CallR X (.type T) r) (hs : CSem X.K r g) (hv : bootBuiltins x = some (.type T)) (hg : Gl X x) (hm : X.mg x = none) (ha : DA X (e :: es) ta wa) (hn : x ≠ "__name__" := by decide) (hdb : (x == ("__debug__" : Str)) = false := by decide)
    (he : starEach (e :: es) X.env = (false, eval e X.env) :: starEach es X.env := by rfl) (hpl : (backTo pos (starEach es X.env)).any (·.1) = false := by rfl) : DE X (.Call (.Name x p) (e :: es) [] pos) (tCB r ta) (wCall g wa) :=
  ⟨pe_callTy hc hg hm hv ha.pa hn hdb he hpl, sem_cb hs ha.sem⟩
theorem dl_callB (hc : CallR X (.builtin id) r) (hs : CSemL X.K r g) (hv : bootBuiltins x = some (.builtin id)) (hg : Gl X x) (hm : X.mg x = none) (ha : DA X (e :: es) ta wa) (hn : x ≠ "__name__" := by decide) (hdb : (x == ("__debug__" : Str)) = false := by decide)
    (he : starEach (e :: es) X.env = (false, eval e X.env) :: starEach es X.env := by rfl) (hpl : (backTo pos (starEach es X.env)).any (·.1) = false := by rfl) : DL X (.Call (.Name x p) (e :: es) [] pos) (tCB r ta) (wCall g wa) :=
  ⟨pe_callB hc hg hm hv ha.pa hn hdb he hpl, sem_cbL hs ha.sem⟩
theorem dl_callT (hc : CallR X (.type T) r) (hs : CSemL X.K r g) (hv : bootBuiltins x = some (.type T)) (hg : Gl X x) (hm : X.mg x = none) (ha : DA X (e :: es) ta wa) (hn : x ≠ "__name__" := by decide) (hdb : (x == ("__debug__" : Str)) = false := by decide)
    (he : starEach (e :: es) X.env = (false, eval e X.env) :: starEach es X.env := by rfl) (hpl : (backTo pos (starEach es X.env)).any (·.1) = false := by rfl) : DL X (.Call (.Name x p) (e :: es) [] pos) (tCB r ta) (wCall g wa) :=
  ⟨pe_callTy hc hg hm hv ha.pa hn hdb he hpl, sem_cbL hs ha.sem⟩
end
theorem Nws.one {K : PySem.W.Frag} {F H : Hp} {vs : List V} {d : D} (h : Paired (Nw K F H) vs [d]) : ∃ v, vs = [v] ∧ Nw K F H v d := by
  cases h with
  | cons h1 h2 => cases h2; exact ⟨_, rfl, h1⟩
theorem Nws.two {K : PySem.W.Frag} {F H : Hp} {vs : List V} {d e : D} (h : Paired (Nw K F H) vs [d, e]) : ∃ v w, vs = [v, w] ∧ Nw K F H v d ∧ Nw K F H w e := by
  cases h with
  | cons h1 h2 =>
    obtain ⟨w, rfl, h3⟩ := Nws.one h2
    exact ⟨_, w, rfl, h1, h3⟩
/-- len -/
def gLen : List D → (D → Prop) → Prop
  | [.list ds], Q => Q (.int ds.length)
  | [.tuple ds], Q => Q (.int ds.length)
  | [.str z], Q => z.length ≤ sizeLine ∧ Q (.int z.length)
  | _, _ => False
def rLenA (K : PySem.W.Frag) : List V → Hp → VK → Prop := fun xs H Q => (∃ p ys, xs = [.ref p] ∧ (SqL K H p ys ∨ SqT K H p ys) ∧ Q (.int ys.length) H) ∨ ∃ z, xs = [.str z] ∧ z.length ≤ sizeLine ∧ Q (.int z.length) H
theorem cr_len {X : Cx} : CallR X (.builtin "len") (rLenA X.K) := CallR.or call_len_seq call_len_str
theorem cs_len {K : PySem.W.Frag} : CSem K (rLenA K) gLen := fun {sx F H vs ds Q R} b h hg k => by
  unfold gLen at hg
  split at hg
  · obtain ⟨v, rfl, h1⟩ := Nws.one h
    obtain ⟨a, xs, rfl, h2, h3⟩ := h1.list b.le
    refine .inl ⟨a, xs, rfl, .inl (SqL.of h2), ?_⟩
    rw [h3.length]
    exact k.now b hg (.int _)
  · obtain ⟨v, rfl, h1⟩ := Nws.one h
    obtain ⟨a, xs, rfl, h2, h3⟩ := h1.tupleH b.le
    refine .inl ⟨a, xs, rfl, .inr h2, ?_⟩
    rw [h3.length]
    exact k.now b hg (.int _)
  · obtain ⟨v, rfl, h1⟩ := Nws.one h
    cases h1.str
    exact .inr ⟨_, rfl, hg.1, k.now b hg.2 (.int _)⟩
  · exact hg.elim
/-- tuple(x), list(x): of a list or a tuple -/
def gTuple : List D → (D → Prop) → Prop
  | [.list ds], Q => Q (.tuple ds)
  | [.tuple ds], Q => Q (.tuple ds)
  | _, _ => False
def gList : List D → (D → Prop) → Prop
  | [.list ds], Q => Q (.list ds)
  | [.tuple ds], Q => Q (.list ds)
  | _, _ => False
theorem cs_tuple {K : PySem.W.Frag} : CSem K (fun xs H Q => ∃ p ys, xs = [.ref p] ∧ ((SqL K H p ys ∧ ∀ l, H l = none → Q (.ref l) (upd H l (.tup ys))) ∨ (SqT K H p ys ∧ Q (.ref p) H))) gTuple := fun {sx F H vs ds Q R} b h hg k => by
  unfold gTuple at hg
  split at hg
  · obtain ⟨v, rfl, h1⟩ := Nws.one h
    obtain ⟨a, xs, rfl, h2, h3⟩ := h1.list b.le
    exact ⟨a, xs, rfl, .inl ⟨SqL.of h2, k.tup b hg h3⟩⟩
  · obtain ⟨v, rfl, h1⟩ := Nws.one h
    obtain ⟨a, xs, rfl, h2, h3⟩ := h1.tuple
    exact ⟨a, xs, rfl, .inr ⟨SqT.of (b.le _ _ h2), k.now b hg (.tup h2 h3)⟩⟩
  · exact hg.elim
theorem cs_list {K : PySem.W.Frag} : CSemL K (fun xs H Q => ∃ p ys, xs = [.ref p] ∧ (SqL K H p ys ∨ SqT K H p ys) ∧ ∀ l, H l = none → Q (.ref l) (upd H l (.lst ys))) gList := fun {sx F H vs ds Q R} b h hg k => by
  unfold gList at hg
  split at hg
  · obtain ⟨v, rfl, h1⟩ := Nws.one h
    obtain ⟨a, xs, rfl, h2, h3⟩ := h1.list b.le
    exact ⟨a, xs, rfl, .inl (SqL.of h2), k.new b hg h3⟩
  · obtain ⟨v, rfl, h1⟩ := Nws.one h
    obtain ⟨a, xs, rfl, h2, h3⟩ := h1.tupleH b.le
    exact ⟨a, xs, rfl, .inr h2, k.new b hg h3⟩
  · exact hg.elim
/-- int(n), int(flag) -/
def gInt : List D → (D → Prop) → Prop
  | [.int i], Q => Q (.int i)
  | [.bool b], Q => Q (.int (if b then 1 else 0))
  | _, _ => False
theorem cs_int {K : PySem.W.Frag} : CSem K (fun xs H Q => (∃ i, xs = [.int i] ∧ Q (.int i) H) ∨ ∃ k, xs = [.bl k] ∧ Q (.int (if k then 1 else 0)) H) gInt := fun {sx F H vs ds Q R} b h hg k => by
  unfold gInt at hg
  split at hg
  · obtain ⟨v, rfl, h1⟩ := Nws.one h
    cases h1.int
    exact .inl ⟨_, rfl, k.now b hg (.int _)⟩
  · obtain ⟨v, rfl, h1⟩ := Nws.one h
    cases h1.bool
    exact .inr ⟨_, rfl, k.now b hg (.int _)⟩
  · exact hg.elim
def gAbs : List D → (D → Prop) → Prop
  | [.int i], Q => Q (.int (if i < 0 then -i else i))
  | _, _ => False
theorem cs_abs {K : PySem.W.Frag} : CSem K (fun xs H Q => ∃ i, xs = [.int i] ∧ Q (.int (if i < 0 then -i else i)) H) gAbs := fun {sx F H vs ds Q R} b h hg k => by
  unfold gAbs at hg
  split at hg
  · obtain ⟨v, rfl, h1⟩ := Nws.one h
    cases h1.int
    exact ⟨_, rfl, k.now b hg (.int _)⟩
  · exact hg.elim
def gMax2 : List D → (D → Prop) → Prop
  | [.int i, .int j], Q => Q (.int (if j > i then j else i))
  | _, _ => False
def gMin2 : List D → (D → Prop) → Prop
  | [.int i, .int j], Q => Q (.int (if j < i then j else i))
  | _, _ => False
theorem cs_max2 {K : PySem.W.Frag} : CSem K (fun xs H Q => ∃ i j, xs = [.int i, .int j] ∧ Q (.int (if j > i then j else i)) H) gMax2 := fun {sx F H vs ds Q R} b h hg k => by
  unfold gMax2 at hg
  split at hg
  · obtain ⟨v, w, rfl, h1, h2⟩ := Nws.two h
    cases h1.int; cases h2.int
    exact ⟨_, _, rfl, k.now b hg (.int _)⟩
  · exact hg.elim
theorem cs_min2 {K : PySem.W.Frag} : CSem K (fun xs H Q => ∃ i j, xs = [.int i, .int j] ∧ Q (.int (if j < i then j else i)) H) gMin2 := fun {sx F H vs ds Q R} b h hg k => by
  unfold gMin2 at hg
  split at hg
  · obtain ⟨v, w, rfl, h1, h2⟩ := Nws.two h
    cases h1.int; cases h2.int
    exact ⟨_, _, rfl, k.now b hg (.int _)⟩
  · exact hg.elim
end W2

set_option Elab.async false
set_option linter.all false
set_option maxRecDepth 100000
/-! W2H: what a def promises over data, and its calls. -/
namespace W2
open PySem PySem.Spec PyProof.Rows L2

/-- a def's promise, where no repr is under way -/
structure FnG (P : Program) (w : World) (K : PySem.W.Frag) (mg : Str → Option Value) (base : Heap) (k : Nat) (f : Addr) (fd : FuncData) (ps : List Str) (sp : Sp) : Prop where
  len : ∀ vs H Q E, sp vs H Q E → vs.length = ps.length
  run : ∀ (A : Around) (outer : List Env) (s : Shared) (H : Hp) (args : Args) (us : List Value) (vs : List V) (Q : VK), Room k A → A.guards = some [] → L2.Env0 P w K mg base A outer s H → BindsTo s fd args (ps.zip us) → Vals vs us → sp vs H Q E0 →
    codeAny (model P w) A (.call (.ref f) args) (CR CX0 outer P w H s Q E0) s
theorem FnG.mono {P : Program} {w : World} {K : PySem.W.Frag} {mg : Str → Option Value} {base : Heap} {j k : Nat} {f : Addr} {fd : FuncData} {ps : List Str} {sp : Sp} (F : FnG P w K mg base j f fd ps sp) (h : j ≤ k) : FnG P w K mg base k f fd ps sp :=
  ⟨F.len, fun A outer s H args us vs Q hr => F.run A outer s H args us vs Q (hr.mono h)⟩
theorem fnG_of {P : Program} {w : World} {K : PySem.W.Frag} {mg : Str → Option Value} {base : Heap} {k : Nat} {f : Addr} {x qual : Str} {st : Stmt} {fd : FuncData} {N ps : List Str} {sp : Sp} (F : Fun K x qual st f fd) (S : FnScope N ps (defScope st)) (len : ∀ vs H Q E, sp vs H Q E → vs.length = ps.length)
    (hbody : ∀ (cdv : Value) (A : Around) (outer : List Env) (s : Shared) (H : Hp) (vs : List V) (Q : VK), Room k (A.deeper (envOfC qual (defScope st) s.heap.objs.size f cdv)) → (A.deeper (envOfC qual (defScope st) s.heap.objs.size f cdv)).guards = some [] → sp vs H Q E0 →
      ∃ t, PSs (cxOf CX0 P w K mg base N qual (defScope st) f cdv A outer s H E0).nox (defBody st) t ∧ t { nx := fun _ H' => Q .non H', rt := Q } (L2.start N vs) H) : FnG P w K mg base (k + 1) f fd ps sp := by
  obtain ⟨oc, od, kV, doc, pm, an, cdv, ct, osl, rfl, lk, hcd⟩ := F.ex
  refine ⟨len, fun A outer s H args us vs Q hr hG e0 hb r hsp => ?_⟩
  have inK : K.In s.heap := e0.mod.kin.keeps fun b o e => (e0.bs b o e).1
  have hkind : ∀ y ∈ ps.zip us, (defScope st).names.lookup y.1 = some .local ∨ ((defScope st).names.lookup y.1 = some .cell ∧ ((cellsFrom (s.heap.objs.size + 1) (defScope st).names []).lookup y.1).isSome = true) := by
    rintro ⟨n, v⟩ hy
    rcases S.par n (List.of_mem_zip hy).1 with q | q
    · exact .inl q
    · exact .inr ⟨q, PySem.W.cellsFrom_some _ _ _ (.inl q)⟩
  refine codeAny_call_function hr.depth (inK _ _ lk) rfl S.co S.gen rfl (PySem.W.codeRec_of inK hcd) (hb _ _ _ _ (wpAny_newFunctionEnv_cells S.kind hkind fun env he s1 y => ?_))
  subst he
  refine ⟨(e0.mod.nolimit.keeps fun b o e => (e0.bs b o e).1).keeps y.toInCall.keep, codeAny_func ?_⟩
  obtain ⟨t, ht, hq⟩ := hbody cdv A outer s H vs Q (hr.deeper _) hG hsp
  have I : Inv (cxOf CX0 P w K mg base N qual (defScope st) f cdv A outer s H E0) [] (L2.start N vs) H s1 := inv_start S hr.hd e0 (len _ _ _ _ hsp) r y
  have out : ∀ {σ' : L2.St} {H' : Hp} {v : V} {u : Value} {s' : Shared}, Inv (cxOf CX0 P w K mg base N qual (defScope st) f cdv A outer s H E0) [] σ' H' s' → RelV v u → Q v H' → CE outer P w H s Q u s' :=
    fun J rv q => ⟨_, _, J.os, J.bare, J.base, J.hok, rv, q⟩
  refine wpAny_mono (ht.nox.run [] s1 (L2.start N vs) H _ I hq) (fun fl s' hs => ?_) fun e s' hs => hs
  cases fl with
  | ret u => obtain ⟨v, σ', H', J, rv, q⟩ := hs; exact out J rv q
  | next => obtain ⟨σ', H', J, q⟩ := hs; exact out (v := V.non) (u := Value.none) J rfl q
  | brk => obtain ⟨_, _, _, q⟩ := hs; exact q.elim
  | cont => obtain ⟨_, _, _, q⟩ := hs; exact q.elim
section
variable {X : Cx} {k : Nat} {f : Addr} {fd : FuncData} {ps : List Str} {sp : Sp} {x : Str} {p pos : Pos} {e : Expr} {es : List Expr} {t : TA}
theorem runG {pins : List (Addr × Obj)} {σ : L2.St} {H : Hp} {s : Shared} {Q : VK} {us : List Value} {vs : List V} (F : FnG X.prog X.w X.K X.mg X.base k f fd ps sp) (hr : Room k X.A) (hG : X.A.guards = some []) (hb : Binds X.K fd ps [])
    (I : Inv X pins σ H s) (r : Vals vs us) (h : sp vs H Q E0) : wpAny (model X.prog X.w) X.A (call (.ref f) us) (EP X pins σ Q) X.xe s := by
  have hl : us.length = ps.length := by rw [← r.length]; exact F.len _ _ _ _ h
  have hb' := hb s us I.kIn (by simpa using hl)
  rw [List.append_nil] at hb'
  refine wpAny_call (codeAny_mono (F.run X.A X.stack s H ⟨us, []⟩ us vs Q hr hG I.env0 hb' r h) fun q s' hq => ?_)
  cases q with
  | error e => exact False.elim hq
  | ok fl =>
    cases fl with
    | ret u => exact I.after hq
    | _ => exact False.elim hq
theorem pe_callG (F : FnG X.prog X.w X.K X.mg X.base k f fd ps sp) (hr : Room k X.A) (hG : X.A.guards = some []) (hg : Gl X x) (hm : X.mg x = some (.ref f)) (hk : PySem.W.keepIn X.K (.ref f) = true) (hb : Binds X.K fd ps [])
    (ha : PA X (e :: es) t) (hdb : (x == ("__debug__" : Str)) = false := by decide) (he : starEach (e :: es) X.env = (false, eval e X.env) :: starEach es X.env := by rfl) (hpl : (backTo pos (starEach es X.env)).any (·.1) = false := by rfl) :
    PE X (.Call (.Name x p) (e :: es) [] pos) (tCall sp [] E0 t) := ⟨fun pins s σ H Q I h =>
  wpAny_Call_Name_kw (ld_glob I hg hm (PySem.W.callWith_K (h₀ := X.base) I.ok.mod.kin hk (thn (ha.run pos pins s σ H _ I h) fun us s1 ⟨vs, H1, I1, r, q⟩ => ⟨I1.kIn, runG F hr hG hb I1 r (by rw [← List.append_nil vs]; exact q)⟩) he hpl) hdb)⟩
end

/-! ### promises over data -/
abbrev WF := List D → (D → Prop) → Prop
def spW (K : PySem.W.Frag) (n : Nat) (w : WF) : Sp := fun vs H Q _ => ∃ (F : Hp) (ds : List D) (P : D → Prop), Base none F H ∧ DtL K F vs ds ∧ ds.length = n ∧ w ds P ∧ Cont K none F H P Q
/-- the first argument is the source -/
def spS (K : PySem.W.Frag) (n : Nat) (w : WF) : Sp := fun vs H Q _ => ∃ (a b : Addr) (vs' : List V) (F : Hp) (ds : List D) (P : D → Prop), vs = .ref a :: vs' ∧ Base (some (a, b)) F H ∧ DtL K F vs' ds ∧ ds.length = n ∧ w ds P ∧ Cont K (some (a, b)) F H P Q
def startE (N : List Str) (ds : List Slot) : En := ds ++ List.replicate (N.length - ds.length) .un
theorem rep_start {K : PySem.W.Frag} {F H : Hp} {N : List Str} {vs : List V} {ds : List D} (b : Base none F H) (h : DtL K F vs ds) : Rep K none H F F (L2.start N vs) H (startE N (ds.map .fz)) where
  base := b
  s0 := fun _ _ q _ => q
  f0 := Same.refl F
  fr := fun _ _ q => .inl q
  len := by
    unfold L2.start startE
    simp only [List.length_append, List.length_map, List.length_replicate, h.length]
  sl := fun i s v h1 h2 => by
    unfold startE at h1
    unfold L2.start at h2
    by_cases hi : i < ds.length
    · rw [List.getElem?_append_left (by simpa using hi), List.getElem?_map] at h1
      rw [List.getElem?_append_left (by simpa [h.length] using hi), List.getElem?_map] at h2
      cases q : ds[i]? with
      | none => rw [q] at h1; cases h1
      | some d =>
        rw [q] at h1
        cases h1
        obtain ⟨x, hx, hd⟩ := h.get i q
        rw [hx] at h2
        cases h2
        exact ⟨x, rfl, hd⟩
    · rw [List.getElem?_append_right (by simpa using hi), List.getElem?_replicate] at h1
      split at h1
      · cases h1; trivial
      · cases h1
  sep := fun i j d e a h1 _ _ _ => by
    exfalso
    unfold startE at h1
    by_cases hi : i < ds.length
    · rw [List.getElem?_append_left (by simpa using hi), List.getElem?_map] at h1
      cases q : ds[i]? with
      | none => rw [q] at h1; cases h1
      | some d => rw [q] at h1; cases h1
    · rw [List.getElem?_append_right (by simpa using hi), List.getElem?_replicate] at h1
      split at h1
      · cases h1
      · cases h1
theorem rep_startS {K : PySem.W.Frag} {F H : Hp} {N : List Str} {a b : Addr} {vs : List V} {ds : List D} (bs : Base (some (a, b)) F H) (h : DtL K F vs ds) : Rep K (some (a, b)) H F F (L2.start N (.ref a :: vs)) H (startE N (.src :: ds.map .fz)) where
  base := bs
  s0 := fun _ _ q _ => q
  f0 := Same.refl F
  fr := fun _ _ q => .inl q
  len := by
    unfold L2.start startE
    simp only [List.length_append, List.length_map, List.length_replicate, List.length_cons, h.length]
  sl := fun i s v h1 h2 => by
    unfold startE at h1
    unfold L2.start at h2
    cases i with
    | zero =>
      simp at h1 h2
      subst h1 h2
      exact ⟨a, b, rfl, rfl⟩
    | succ i =>
      by_cases hi : i < ds.length
      · rw [List.getElem?_append_left (by simpa using hi), List.getElem?_cons_succ, List.getElem?_map] at h1
        rw [List.getElem?_append_left (by simpa [h.length] using hi), List.map_cons, List.getElem?_cons_succ, List.getElem?_map] at h2
        cases q : ds[i]? with
        | none => rw [q] at h1; cases h1
        | some d =>
          rw [q] at h1
          cases h1
          obtain ⟨x, hx, hd⟩ := h.get i q
          rw [hx] at h2
          cases h2
          exact ⟨x, rfl, hd⟩
      · rw [List.getElem?_append_right (by simpa using hi), List.getElem?_replicate] at h1
        split at h1
        · cases h1; trivial
        · cases h1
  sep := fun i j d e a h1 _ _ _ => by
    exfalso
    unfold startE at h1
    cases i with
    | zero => simp at h1
    | succ i =>
      by_cases hi : i < ds.length
      · rw [List.getElem?_append_left (by simpa using hi), List.getElem?_cons_succ, List.getElem?_map] at h1
        cases q : ds[i]? with
        | none => rw [q] at h1; cases h1
        | some d => rw [q] at h1; cases h1
      · rw [List.getElem?_append_right (by simpa using hi), List.getElem?_replicate] at h1
        split at h1
        · cases h1
        · cases h1
/-- A DEF WITHOUT THE SOURCE keeps its promise: its body's reading over data, and that it does what w says -/
theorem fn_pure {P : Program} {w : World} {K : PySem.W.Frag} {mg : Str → Option Value} {base : Heap} {k : Nat} {f : Addr} {x qual : Str} {st : Stmt} {fd : FuncData} {N ps : List Str} {wf : WF} {wb : WS} (F : Fun K x qual st f fd) (S : FnScope N ps (defScope st))
    (hbody : ∀ (cdv : Value) (A : Around) (outer : List Env) (s : Shared) (H : Hp), Room k (A.deeper (envOfC qual (defScope st) s.heap.objs.size f cdv)) → (A.deeper (envOfC qual (defScope st) s.heap.objs.size f cdv)).guards = some [] →
      ∃ t, DSs (cxOf CX0 P w K mg base N qual (defScope st) f cdv A outer s H E0).nox (defBody st) t wb)
    (hw : ∀ ds Q, ds.length = ps.length → wf ds Q → wb { nx := fun _ => Q .none, rt := Q } (startE N (ds.map .fz))) : FnG P w K mg base (k + 1) f fd ps (spW K ps.length wf) := by
  refine fnG_of F S (fun vs H Q E h => ?_) fun cdv A outer s H vs Q hr hG h => ?_
  · obtain ⟨F, ds, P, _, hd, hl, _⟩ := h
    rw [hd.length, hl]
  · obtain ⟨F, ds, P, b, hd, hl, hp, k⟩ := h
    obtain ⟨t, ht⟩ := hbody cdv A outer s H hr hG
    refine ⟨t, ht.pss, ht.sem (rep_start b hd) (hw ds P hl hp) ⟨fun η' σ' F' H' q _ r => ?_, fun _ _ _ _ q => q.elim, fun _ _ _ _ q => q.elim, fun d v F' H' q e h => k d v F' H' q e h⟩⟩
    exact k _ _ F' H' q r.out .non
theorem fn_src {P : Program} {w : World} {K : PySem.W.Frag} {mg : Str → Option Value} {base : Heap} {k : Nat} {f : Addr} {x qual : Str} {st : Stmt} {fd : FuncData} {N ps : List Str} {p0 : Str} {wf : WF} {wb : WS} (F : Fun K x qual st f fd) (S : FnScope N (p0 :: ps) (defScope st))
    (hbody : ∀ (cdv : Value) (A : Around) (outer : List Env) (s : Shared) (H : Hp), Room k (A.deeper (envOfC qual (defScope st) s.heap.objs.size f cdv)) → (A.deeper (envOfC qual (defScope st) s.heap.objs.size f cdv)).guards = some [] →
      ∃ t, DSs (cxOf CX0 P w K mg base N qual (defScope st) f cdv A outer s H E0).nox (defBody st) t wb)
    (hw : ∀ ds Q, ds.length = ps.length → wf ds Q → wb { nx := fun _ => Q .none, rt := Q } (startE N (.src :: ds.map .fz))) : FnG P w K mg base (k + 1) f fd (p0 :: ps) (spS K ps.length wf) := by
  refine fnG_of F S (fun vs H Q E h => ?_) fun cdv A outer s H vs Q hr hG h => ?_
  · obtain ⟨a, b, vs', F, ds, P, rfl, _, hd, hl, _⟩ := h
    rw [List.length_cons, List.length_cons, hd.length, hl]
  · obtain ⟨a, b, vs', F, ds, P, rfl, bb, hd, hl, hp, k⟩ := h
    obtain ⟨t, ht⟩ := hbody cdv A outer s H hr hG
    refine ⟨t, ht.pss, ht.sem (rep_startS bb hd) (hw ds P hl hp) ⟨fun η' σ' F' H' q _ r => ?_, fun _ _ _ _ q => q.elim, fun _ _ _ _ q => q.elim, fun d v F' H' q e h => k d v F' H' q e h⟩⟩
    exact k _ _ F' H' q r.out .non

/-! ### calls -/
def wFn (n : Nat) (wf : WF) (wa : WA) : WE := fun η Q => wa η fun ds => ds.length = n ∧ wf ds Q
def isFlat : D → Bool
  | .none => true
  | .bool _ => true
  | .int _ => true
  | .str _ => true
  | _ => false
def wFnB (n : Nat) (wf : WF) (wa : WA) : WE := fun η Q => wa η fun ds => ds.length = n ∧ wf ds fun d => isFlat d = true ∧ Q d
theorem Base.none {sx : Sx} {F H : Hp} (b : Base sx F H) : Base none F H := ⟨b.le, trivial, fun _ h => h.elim⟩
theorem Cont.pure {K : PySem.W.Frag} {sx : Sx} {F H : Hp} {Q : D → Prop} {R : VK} (k : Cont K sx F H Q R) (b : Base sx F H) : Cont K none F H Q R := fun d v F' H' q e h => k d v F' H' q (e.pure b) h
theorem sem_fn {K : PySem.W.Frag} {n : Nat} {wf : WF} {ta : TA} {wa : WA} (ha : SemB K ta wa) : SemE K (tCall (spW K n wf) [] E0 ta) (wFn n wf wa) := fun {sx H0 F0 F σ H η Q R} r hw k => ha r hw fun ds vs F1 H1 q e hd => by
  rw [List.append_nil]
  exact ⟨F1, ds, Q, (r.ext e).base.none, hd, q.1, q.2, (k.ext e).pure (r.ext e).base⟩
section
variable {X : Cx} {k n : Nat} {f : Addr} {fd : FuncData} {ps : List Str} {wf : WF} {x : Str} {p pos : Pos} {e : Expr} {es : List Expr} {ta : TA} {wa : WA}
theorem de_fn (G : FnG X.prog X.w X.K X.mg X.base k f fd ps (spW X.K n wf)) (hr : Room k X.A) (hG : X.A.guards = some []) (hm : X.mg x = some (.ref f)) (hk : PySem.W.keepIn X.K (.ref f) = true) (hb : Binds X.K fd ps []) (hg : Gl X x) (ha : DB X (e :: es) ta wa)
    (hdb : (x == ("__debug__" : Str)) = false := by decide) (he : starEach (e :: es) X.env = (false, eval e X.env) :: starEach es X.env := by rfl) (hpl : (backTo pos (starEach es X.env)).any (·.1) = false := by rfl) :
    DE X (.Call (.Name x p) (e :: es) [] pos) (tCall (spW X.K n wf) [] E0 ta) (wFn n wf wa) := ⟨pe_callG G hr hG hg hm hk hb ha.pa hdb he hpl, sem_fn ha.sem⟩
end
/-- lists of slots' own lent to a def that hands back no object -/
def lendF (vs : List V) (F H : Hp) : Hp := fun b => match F b with
  | some o => some o
  | none => if V.ref b ∈ vs then (match H b with | some (.lst xs) => some (.lst xs) | _ => none) else none
theorem lend_same {vs : List V} {F H : Hp} : Same F (lendF vs F H) := fun b o h => by unfold lendF; rw [h]
theorem lend_le {vs : List V} {F H : Hp} (le : Same F H) : Same (lendF vs F H) H := fun b o h => by
  unfold lendF at h
  cases q : F b with
  | some u => rw [q] at h; cases h; exact le _ _ q
  | none =>
    rw [q] at h
    dsimp only at h
    split at h
    · split at h
      · rename_i z; rw [← h]; exact z
      · cases h
    · cases h
/-- no dict of a slot's own among the arguments -/
def noDict : D → Bool
  | .dict _ => false
  | _ => true
theorem lend_dt {K : PySem.W.Frag} {sx : Sx} {H0 F0 F H : Hp} {σ : L2.St} {η : En} (r : Rep K sx H0 F0 F σ H η) (all : List V) : ∀ {vs : List V} {ds : List D}, OpL K F σ η vs ds → (∀ v ∈ vs, v ∈ all) → (∀ (i : Nat) (d : D), η[i]? = some (Slot.ow d) → d ∈ ds → noDict d = true) → DtL K (lendF all F H) vs ds
  | _, _, .nil, _, _ => .nil
  | _, _, .cons (a := v) (b := d) h t, hm, hn => by
    refine .cons ?_ (lend_dt r all t (fun v hv => hm v (List.mem_cons_of_mem _ hv)) fun i d hi hd => hn i d hi (List.mem_cons_of_mem _ hd))
    rcases h with h | ⟨i, a, h1, h2, rfl⟩
    · exact h.mono lend_same
    · obtain ⟨a', e, ho, hf, _⟩ := r.sl i _ _ h1 h2
      cases e
      have nd := hn i d h1 List.mem_cons_self
      cases d with
      | list ds =>
        obtain ⟨xs, hH, hd⟩ := ho
        refine .lst ?_ (hd.mono lend_same)
        unfold lendF
        rw [hf]
        dsimp only
        rw [if_pos (hm _ List.mem_cons_self), hH]
      | dict es => cases nd
      | _ => exact ho.elim
theorem flat_dt {K : PySem.W.Frag} {F F' : Hp} {v : V} {d : D} (h : Dt K F v d) (f : isFlat d = true) : Dt K F' v d := by
  cases h <;> first | (cases f; done) | constructor
def ownDicts (η : En) : Bool := η.all fun s => match s with
  | .ow (.dict _) => false
  | _ => true
theorem sem_fnB {K : PySem.W.Frag} {n : Nat} {wf : WF} {ta : TA} {wa : WA} (ha : SemA K ta wa) : SemE K (tCall (spW K n wf) [] E0 ta) (fun η Q => ownDicts η = true ∧ wFnB n wf wa η Q) := fun {sx H0 F0 F σ H η Q R} r hw k => ha r hw.2 fun ds vs F1 H1 q e ho => by
  rw [List.append_nil]
  have r1 := r.ext e
  refine ⟨lendF vs F1 H1, ds, fun d => isFlat d = true ∧ Q d, ⟨lend_le r1.base.le, trivial, fun _ h => h.elim⟩, lend_dt r1 vs ho (fun _ h => h) (fun i d hi _ => ?_), q.1, q.2, fun d v F' H' q' e' h => ?_⟩
  · have h1 := List.all_eq_true.mp hw.1 _ (List.mem_of_getElem? hi)
    cases d <;> first | rfl | (cases h1)
  · have e2 : Ext2 none F1 H1 F1 H' := ⟨Same.refl _, e'.sH, fun b o z => e'.sH _ _ (r1.base.le _ _ z) (fun z => z), fun _ _ z => .inl z, trivial⟩
    exact k d v F1 H' q'.2 (e.trans (e2.pure r1.base)) (flat_dt h q'.1)
section
variable {X : Cx} {k n : Nat} {f : Addr} {fd : FuncData} {ps : List Str} {wf : WF} {x : Str} {p pos : Pos} {e : Expr} {es : List Expr} {ta : TA} {wa : WA}
theorem de_fnB (G : FnG X.prog X.w X.K X.mg X.base k f fd ps (spW X.K n wf)) (hr : Room k X.A) (hG : X.A.guards = some []) (hm : X.mg x = some (.ref f)) (hk : PySem.W.keepIn X.K (.ref f) = true) (hb : Binds X.K fd ps []) (hg : Gl X x) (ha : DA X (e :: es) ta wa)
    (hdb : (x == ("__debug__" : Str)) = false := by decide) (he : starEach (e :: es) X.env = (false, eval e X.env) :: starEach es X.env := by rfl) (hpl : (backTo pos (starEach es X.env)).any (·.1) = false := by rfl) :
    DE X (.Call (.Name x p) (e :: es) [] pos) (tCall (spW X.K n wf) [] E0 ta) (fun η Q => ownDicts η = true ∧ wFnB n wf wa η Q) := ⟨pe_callG G hr hG hg hm hk hb ha.pa hdb he hpl, sem_fnB ha.sem⟩
end
/-- a def that takes the source -/
def wFnS (i n : Nat) (wf : WF) (wa : WA) : WE := fun η Q => match η[i]? with
  | some .src => wa η fun ds => ds.length = n ∧ wf ds Q
  | _ => False
theorem sem_fnS {K : PySem.W.Frag} {i n : Nat} {wf : WF} {ta : TA} {wa : WA} (ha : SemB K ta wa) : SemE K (tCall (spS K n wf) [] E0 (tCons (tVar i) ta)) (wFnS i n wf wa) := fun {sx H0 F0 F σ H η Q R} r hw k => by
  unfold wFnS at hw
  split at hw
  · rename_i hi
    obtain ⟨v, hv, a, b, rfl, rfl⟩ := r.val hi
    refine ⟨.ref a, hv, ha r hw fun ds vs F1 H1 q e hd => ?_⟩
    show spS K n wf ((V.ref a :: vs) ++ []) H1 R E0
    rw [List.append_nil]
    exact ⟨a, b, vs, F1, ds, Q, rfl, (r.ext e).base, hd, q.1, q.2, k.ext e⟩
  · exact hw.elim
section
variable {X : Cx} {k n : Nat} {f : Addr} {fd : FuncData} {ps : List Str} {wf : WF} {x : Str} {p pos : Pos} {e : Expr} {es : List Expr} {ta : TA} {wa : WA}
theorem de_fnS (i : Nat) (G : FnG X.prog X.w X.K X.mg X.base k f fd ps (spS X.K n wf)) (hr : Room k X.A) (hG : X.A.guards = some []) (hm : X.mg x = some (.ref f)) (hk : PySem.W.keepIn X.K (.ref f) = true) (hb : Binds X.K fd ps []) (hg : Gl X x) (hn : PE X e (tVar i)) (ha : DB X es ta wa)
    (hdb : (x == ("__debug__" : Str)) = false := by decide) (he : starEach (e :: es) X.env = (false, eval e X.env) :: starEach es X.env := by rfl) (hpl : (backTo pos (starEach es X.env)).any (·.1) = false := by rfl) :
    DE X (.Call (.Name x p) (e :: es) [] pos) (tCall (spS X.K n wf) [] E0 (tCons (tVar i) ta)) (wFnS i n wf wa) := ⟨pe_callG G hr hG hg hm hk hb (pa_cons hn ha.pa he) hdb he hpl, sem_fnS ha.sem⟩
end
end W2

set_option Elab.async false
set_option linter.all false
set_option maxRecDepth 100000
/-! W2S: sorted over data, empty tuples among them too. -/
namespace W2
open PySem PySem.Spec PyProof.Rows L2 PySem.SeqAt PySem.W

section
variable {A : Around} {s : Shared}
/-- sorting asks tuple's own __lt__ -/
theorem tupLtCall {prog : Program} {w : World} {E : Value → Shared → Prop} {Q : Value → Shared → Prop} {l b : Addr} {xs ys : Array Value} {e r : Nat → Bool} (hl : s.heap.IsTuple l xs) (hb : s.heap.IsTuple b ys)
    (he : ∀ j (h1 : j < xs.size) (h2 : j < ys.size), EqAt A.in1 s xs[j] ys[j] (e j)) (hr : ∀ j (h1 : j < xs.size) (h2 : j < ys.size), e j = false → RcLt A.in1 s xs[j] ys[j] (r j))
    (h : Q (.bool (firstLt e r (decide (xs.size < ys.size)) (List.range (min xs.size ys.size)))) s) : wpAny (model prog w) A (call (.builtin "tuple.__lt__") [.ref l, .ref b]) Q E s := by
  obtain ⟨⟨c1, d1, t1, s1⟩, o1, k1, n1, z1⟩ := id hl
  obtain ⟨⟨c2, d2, t2, s2⟩, o2, k2, n2, z2⟩ := id hb
  simp only at k1 z1 k2 z2
  subst k1 z1 k2 z2
  exact call_meets PySem.F.slot_tuple_lt ⟨_, o1, rfl⟩ PySem.F.entry_tuple_lt (PySem.F.args_tuple_lt_2 _ _) (tuple_ltAt l b xs ys n1 n2 d1 d2 s1 s2 e r) ⟨o1, o2, he, hr, h⟩
end
section
variable {prog : Program} {w : World} {A : Around} {E : Value → Shared → Prop} {s : Shared}
/-- the comparison of two tuples that sorting makes where all keys are tuples -/
theorem oneLtTup {xs ys : List PyData} {a b : Value} {as bs : List Addr} {Q : Bool → Shared → Prop} (ra : Reads s.heap a (.tuple xs) as) (rb : Reads s.heap b (.tuple ys) bs) (h : alike (.tuple xs) (.tuple ys) = true)
    (hu : A.units + min (PyData.tuple xs).depth (PyData.tuple ys).depth < cLine) (hq : Q (dataLt (.tuple xs) (.tuple ys)) s) : wpAny (model prog w) A (oneLt' true a b) Q E s := by
  have hal : alikeAll xs ys = true := by simpa [alike] using h
  cases ra with
  | @tuple l o vs n _ _ h1 h2 h3 h4 =>
    cases rb with
    | @tuple l' o' us m _ _ k1 k2 k3 k4 =>
      have n1 : vs.size = xs.length := by simpa using ReadsAll.length _ _ _ h4
      have n2 : us.size = ys.length := by simpa using ReadsAll.length _ _ _ k4
      rw [dataLt_tuple, ← firstLt_toks xs ys hal, ← n1, ← n2] at hq
      rw [oneLt'_eq]
      simp only [if_true]
      have room := room_in hu
      refine wpAny_bind (wpAny_cRoomFor (by omega) (wpAny_bind (wpAny_callSpecialIfBound?_slot (T := "tuple") ⟨_, h1, h2⟩ PySem.F.slot_tuple_lt (tupLtCall (e := pairEq xs ys) (r := fun j => dataLt (xs.getD j .none) (ys.getD j .none)) ⟨_, h1, h2, _, h3⟩ ⟨_, k1, k2, _, k3⟩ (fun j j1 j2 => ?_) (fun j j1 j2 hj => ?_) (wpAny_truthy_bool hq)))))
      · have q := eqAt_alikeAll xs ys A.in1 s vs.toList us.toList _ _ h4 k4 hal room j (by simpa using j1) (by simpa using j2)
        simpa using q
      · have q := rcLt_alikeAll xs ys A.in1 s vs.toList us.toList _ _ h4 k4 hal room j (by simpa using j1) (by simpa using j2) hj
        simpa using q
/-- the first places of tuples, where there are any -/
def Firsts (h : Heap) : List Value → List (Option Value) → Prop
  | [], [] => True
  | v :: vs, f :: fs => (∃ a o xs n, v = .ref a ∧ h.get? a = some o ∧ o.cls = .type "tuple" ∧ o.data = .seq xs n ∧ xs[0]? = f) ∧ Firsts h vs fs
  | _, _ => False
theorem mapM_firsts {M : Model} : ∀ (vs : List Value) (fs : List (Option Value)) {Q : List (Option Value) → Shared → Prop}, Firsts s.heap vs fs → Q fs s → wpAny M A (vs.mapM firstOfTuple') Q E s
  | [], [], _, _, h => by rw [List.mapM_nil]; exact wpAny_pure h
  | [], _ :: _, _, t, _ => t.elim
  | _ :: _, [], _, t, _ => t.elim
  | v :: vs, f :: fs, Q, t, h => by
    obtain ⟨⟨a, o, xs, n, rfl, ho, hc, hd, hf⟩, t⟩ := t
    rw [List.mapM_cons, kas_first_eq]
    have lk : Looks M s.heap (typeOf (.ref a)) o.cls := (Looks.ld ho).andThen .now
    refine wpAny_bind (wpAny_bind (lk.here ?_))
    rw [hc, if_neg (by simp)]
    refine wpAny_bind (listItems_at ho hd (wpAny_pure ?_))
    rw [hf]
    exact wpAny_bind (mapM_firsts vs fs (Q := fun bs s' => wpAny M A (pure (f :: bs)) Q E s') t (wpAny_pure h))
theorem firsts_of {h : Heap} : ∀ {vs : List Value} {ds : List PyData}, EachIs (fun v d => ∃ as, Reads h v d as) vs ds → (∀ d, d ∈ ds → ∃ xs, d = .tuple xs) → ∃ fs, Firsts h vs fs ∧ (PyData.tuple [] ∈ ds → none ∈ fs)
  | _, _, .nil, _ => ⟨[], trivial, fun h => absurd h (by simp)⟩
  | _, _, .cons (b := d) ⟨as, r⟩ t, ht => by
    obtain ⟨fs, h1, h2⟩ := firsts_of t fun d hd => ht d (List.mem_cons_of_mem _ hd)
    obtain ⟨xs, rfl⟩ := ht d (List.mem_cons_self ..)
    cases r with
    | @tuple a o vs n _ _ ho hc hd hr =>
      refine ⟨vs[0]? :: fs, ⟨⟨a, o, vs, n, rfl, ho, hc, hd, rfl⟩, h1⟩, fun hm => ?_⟩
      rcases List.mem_cons.mp hm with e | hm
      · have e1 : xs = [] := by cases e; rfl
        subst e1
        have e2 : vs.toList = [] := by
          cases q : vs.toList with
          | nil => rfl
          | cons x r => rw [q] at hr; cases hr
        have e3 : vs = #[] := Array.toList_inj.mp (by rw [e2])
        subst e3
        exact List.mem_cons_self ..
      · exact List.mem_cons_of_mem _ (h2 hm)
theorem SortsAt.tups {vs : List Value} {ds : List PyData} (e : EachIs (fun v d => ∃ as, Reads s.heap v d as) vs ds) (hal : AllAlike ds) (ht : ∀ d, d ∈ ds → ∃ xs, d = .tuple xs) (hu : ∀ d, d ∈ ds → A.units + d.depth < cLine) : SortsAt prog w A s (dataKind s.heap ds) vs := by
  by_cases hne : PyData.tuple [] ∈ ds
  · obtain ⟨fs, f1, f2⟩ := firsts_of e ht
    have hno := f2 hne
    have room : ∀ {d d' : PyData}, d ∈ ds → A.units + min d.depth d'.depth < cLine := fun {d d'} hd => Nat.lt_of_le_of_lt (Nat.add_le_add_left (Nat.min_le_left _ _) _) (hu d hd)
    have notall : ¬ (fs.toArray.all fun x => x.isSome) = true := fun z => by
      rw [List.all_toArray, List.all_eq_true] at z
      exact absurd (z _ hno) (by simp)
    have keys : ∀ v, v ∈ vs → ∃ a, (dataKind s.heap ds).keyOf v = some a := fun v hv => by
      obtain ⟨d, hd, as, r⟩ := e.left v hv
      exact ⟨_, dataKind_some hal hd r⟩
    by_cases hf : (fs.toArray[0]?.bind id).isSome = true
    · refine ⟨keys, general', fun E x y a b Q ha hb hq => ?_, fun h2 E Q hq => ?_⟩
      · obtain ⟨d, as, hd, ra, rfl⟩ := dataKind_inv ha
        obtain ⟨d', as', hd', rb, rfl⟩ := dataKind_inv hb
        have hn : d ≠ .none := by obtain ⟨xs, rfl⟩ := ht d hd; intro z; cases z
        show wpAny _ _ (oneLt' false x y) _ _ _
        exact oneLt_alike (fun z => nomatch z) ra rb (hal d hd d' hd') hn (room hd) hq
      · rw [kat_kind_eq, List.mapM_toArray, map_eq_pure_bind]
        refine wpAny_bind (wpAny_bind (mapM_firsts vs _ f1 (wpAny_pure ?_)))
        rw [if_neg notall, if_pos hf]
        exact wpAny_pure hq
    · refine ⟨keys, oneType', fun E x y a b Q ha hb hq => ?_, fun h2 E Q hq => ?_⟩
      · obtain ⟨d, as, hd, ra, rfl⟩ := dataKind_inv ha
        obtain ⟨d', as', hd', rb, rfl⟩ := dataKind_inv hb
        rw [keyLt'_oneType]
        have al := hal d hd d' hd'
        have rm := room (d' := d') hd
        obtain ⟨xs, rfl⟩ := ht d hd
        obtain ⟨ys, rfl⟩ := ht d' hd'
        exact oneLtTup ra rb al rm hq
      · rw [kat_kind_eq, List.mapM_toArray, map_eq_pure_bind]
        refine wpAny_bind (wpAny_bind (mapM_firsts vs _ f1 (wpAny_pure ?_)))
        rw [if_neg notall, if_neg hf, oneTypeOnly'_eq, List.mapM_toArray, map_eq_pure_bind]
        have hT : ∀ v ∈ vs, Looks (model prog w) s.heap (typeOf v) (.type "tuple") := fun v hv => by
          obtain ⟨d, hd, as, r⟩ := e.left v hv
          obtain ⟨xs, rfl⟩ := ht d hd
          exact looks_reads r
        obtain ⟨v₁, rest, rfl⟩ : ∃ v₁ rest, vs = v₁ :: rest := by
          cases vs with
          | nil => simp at h2
          | cons a b => exact ⟨a, b, rfl⟩
        refine wpAny_bind (wpAny_bind (wpAny_bind (kas_mapM (r := Value.type "tuple") _ (fun v hv Q' hq => (hT v hv).here hq) (wpAny_pure ?_))))
        have hall : ((List.map (fun _ => Value.type "tuple") (v₁ :: rest)).toArray.all fun x => x == Value.type "tuple") = true := by
          simp only [List.all_toArray, List.all_map, List.all_eq_true]
          intro _ _
          exact beq_self_eq_true _
        have h0 : (List.map (fun _ => Value.type "tuple") (v₁ :: rest)).toArray[0]? = some (Value.type "tuple") := by simp
        rw [h0]
        simp only [hall, if_true]
        exact wpAny_pure (wpAny_pure hq)
  · refine SortsAt.data e hal (.inl fun d hd => ?_) hu
    obtain ⟨xs, rfl⟩ := ht d hd
    cases xs with
    | nil => exact absurd hd hne
    | cons x r => exact ⟨x, r, rfl⟩
end
end W2

set_option Elab.async false
set_option linter.all false
set_option maxRecDepth 100000
/-! W2T: sorted, repr, sum, max, min over data. -/
namespace W2
open PySem PySem.Spec PyProof.Rows L2 PySem.W

/-! ### sorted -/
def sortD (ds : List D) : List D := ds.mergeSort (dataLe false id)
def isTup : D → Bool
  | .tuple _ => true
  | _ => false
def isNon : D → Bool
  | .none => true
  | _ => false
/-- what can be sorted here -/
def sortOk (ds : List D) : Bool := (ds.all fun d => ds.all fun e => alike d e) && (ds.all isTup || ds.all fun d => !isTup d && !isNon d) && ds.all fun d => decide (d.depth ≤ 64)
section
variable {prog : Program} {w : World} {A : Around} {s : Shared}
theorem sortsAt_ok {vs : List Value} {ds : List PyData} (e : EachIs (fun v d => ∃ as, Reads s.heap v d as) vs ds) (h : sortOk ds = true) (hu : A.units + 64 < cLine) : SortsAt prog w A s (dataKind s.heap ds) vs := by
  unfold sortOk at h
  rw [Bool.and_eq_true, Bool.and_eq_true] at h
  obtain ⟨⟨h1, h2⟩, h3⟩ := h
  have hal : AllAlike ds := fun d hd d' hd' => List.all_eq_true.mp (List.all_eq_true.mp h1 d hd) d' hd'
  have dep : ∀ d, d ∈ ds → A.units + d.depth < cLine := fun d hd => by
    have := of_decide_eq_true (List.all_eq_true.mp h3 d hd)
    omega
  rcases Bool.or_eq_true _ _ ▸ h2 with h2 | h2
  · exact SortsAt.tups e hal (fun d hd => by
      have q := List.all_eq_true.mp h2 d hd
      cases d <;> first | (cases q; done) | exact ⟨_, rfl⟩) dep
  · refine SortsAt.data e hal (.inr fun d hd => ?_) dep
    have q := List.all_eq_true.mp h2 d hd
    constructor
    · rintro rfl; cases q
    · rintro xs rfl; cases q
theorem allAlike_ok {ds : List PyData} (h : sortOk ds = true) : AllAlike ds := by
  unfold sortOk at h
  rw [Bool.and_eq_true, Bool.and_eq_true] at h
  exact fun d hd d' hd' => List.all_eq_true.mp (List.all_eq_true.mp h.1.1 d hd) d' hd'
end
/-- pairs of a value and its data, sorted by the data -/
def sortP (bs : List (V × D)) : List (V × D) := bs.mergeSort (dataLe false (fun b => b.2))
theorem sortP_snd (bs : List (V × D)) : (sortP bs).map (·.2) = sortD (bs.map (·.2)) := by
  unfold sortP sortD
  exact sort_maps (r := dataLe false fun b : V × D => b.2) (s := dataLe false id) (fun b : V × D => b.2) fun a _ b _ => rfl
theorem each_of {P : Value → V × D → Prop} : ∀ {vs : List V} {ds : List D} {us : List Value}, vs.length = ds.length → Vals vs us → (∀ v d u, (v, d) ∈ vs.zip ds → RelV v u → P u (v, d)) → EachIs P us (vs.zip ds)
  | [], [], _, _, r, _ => by cases r; exact .nil
  | v :: vs, d :: ds, _, hl, r, h => by
    cases r with
    | cons r1 r2 => exact .cons (h v d _ (by simp) r1) (each_of (by simpa using hl) r2 fun v' d' u hm => h v' d' u (by simp [hm]))
  | [], _ :: _, _, hl, _, _ => by simp at hl
  | _ :: _, [], _, hl, _, _ => by simp at hl
theorem each_vals : ∀ {us : List Value} {bs : List (V × D)}, EachIs (fun u b => RelV b.1 u) us bs → Vals (bs.map (·.1)) us
  | _, _, .nil => .nil
  | _, _, .cons h t => .cons h (each_vals t)
theorem zip_snd {α β : Type} : ∀ {xs : List α} {ys : List β}, xs.length = ys.length → (xs.zip ys).map (·.2) = ys
  | [], [], _ => rfl
  | x :: xs, y :: ys, h => by simp [zip_snd (by simpa using h : xs.length = ys.length)]
  | [], _ :: _, h => by simp at h
  | _ :: _, [], h => by simp at h
section
variable {X : Cx} {pins : List (Addr × Obj)} {σ : L2.St} {H : Hp} {s : Shared}
/-- a list that was just laid is sorted -/
theorem sort_laid {A : Around} {P : PySem.Fin → Shared → Prop} {E : Value → Shared → Prop} {vs : List V} {ds : List D} {us : List Value} (I : Inv X pins σ H s) (hu : A.units + 64 < cLine) (r : Vals vs us) (hd : DpAll X.K H vs ds) (ok : sortOk ds = true) (hz : us.length ≤ sizeLine) {tk : Nat}
    (h : ∀ (s' : Shared) (ws : List V), ws = (sortP (vs.zip ds)).map (·.1) → Inv X pins σ (upd H s.heap.objs.size (.lst ws)) s' → P (.done (.ret .none)) s') :
    wpAny (model X.prog X.w) A (Builtin.«list.sort» ⟨[.ref s.heap.objs.size], []⟩) P E { s with heap := s.heap.push (seqObj "list" us.toArray 0), toks := tk } := by
  have hl : vs.length = ds.length := by
    have : ∀ {vs : List V} {ds : List D}, DpAll X.K H vs ds → vs.length = ds.length := by
      intro vs
      induction vs with
      | nil => intro ds h; cases h; rfl
      | cons v vs ih => intro ds h; cases h with | cons _ t => simp [ih t]
    exact this hd
  have hp : (s.heap.push (seqObj "list" us.toArray 0)).get? s.heap.objs.size = some (seqObj "list" us.toArray 0) := Heap.get?_push_size _ rfl
  obtain ⟨_, ras⟩ := Dp.readsAll I ds vs us hd r
  -- each value reads as its data, in the heap where it is sorted
  have old : ∀ b o, s.heap.get? b = some o → (sortingHeap (s.heap.push (seqObj "list" us.toArray 0)) s.heap.objs.size us).get? b = some o := fun b o e =>
    sortingHeap_old (Nat.ne_of_lt (Heap.lt_size e)) (Heap.get?_push_of_some _ e)
  have each : EachIs (fun v d => ∃ as, Reads (sortingHeap (s.heap.push (seqObj "list" us.toArray 0)) s.heap.objs.size us) v d as) us ds := by
    have go : ∀ {us' : List Value} {ds' : List D} {as : List Addr}, ReadsAll s.heap us' ds' as → EachIs (fun v d => ∃ as, Reads (sortingHeap (s.heap.push (seqObj "list" us.toArray 0)) s.heap.objs.size us) v d as) us' ds' := by
      intro us'
      induction us' with
      | nil => intro ds' as h; cases h; exact .nil
      | cons u us' ih =>
        intro ds' as h
        cases h with
        | cons h1 h2 => exact .cons ⟨_, PyProof.Rows.Reads.keeps old h1⟩ (ih h2)
    exact go ras
  have sz : (vs.zip ds).map (·.2) = ds := zip_snd hl
  have h1 : EachIs (fun u (b : V × D) => RelV b.1 u) us (vs.zip ds) := each_of hl r fun v d u _ q => q
  have h2 : EachIs (fun v (b : V × D) => ∃ as, Reads (sortingHeap (s.heap.push (seqObj "list" us.toArray 0)) s.heap.objs.size us) v b.2 as) us (vs.zip ds) := each_of_map (fun b : V × D => b.2) (by rw [sz]; exact each)
  have h3 := sortVals_data (enc := fun b : V × D => b.2) false h1 h2 (by rw [sz]; exact allAlike_ok ok)
  rw [sz] at h3
  refine list_sort_vals (κ := dataKind (sortingHeap (s.heap.push (seqObj "list" us.toArray 0)) s.heap.objs.size us) ds) (n := 0) hp (sortsAt_ok (s := { s with heap := _, toks := tk }) each ok hu) hz ?_
  have hv := each_vals h3
  obtain ⟨c, hc⟩ := sortedHeap_at (out := (sortVals (dataKind (sortingHeap (s.heap.push (seqObj "list" us.toArray 0)) s.heap.objs.size us) ds) false us us).toArray) hp
  refine h _ _ rfl (I.laid (t' := tk) (fun b o e => ?_) (Nat.le_refl _) ⟨?_, _, c, hv, hc⟩)
  · have lt := Heap.lt_size e
    rw [sortedHeap_old (Nat.ne_of_lt lt) (by rw [size_push']; exact Nat.lt_succ_of_lt lt)]
    exact Heap.get?_push_of_some _ e
  · show ((sortP (vs.zip ds)).map (·.1)).length ≤ sizeLine
    have hl2 : vs.length = us.length := r.length
    rw [List.length_map, sortP, List.length_mergeSort, List.length_zip]
    omega
theorem sortedGo {A : Around} {E : Value → Shared → Prop} {Q : Value → Shared → Prop} {v : Value} {vs : List V} {ds : List D} (hu : A.units + 70 < cLine) (ha : argsOk "sorted" ⟨[v], []⟩) (hd : DpAll X.K H vs ds)
    (hcol : ∀ (Q' : List Value → Shared → Prop) (E' : Value → Shared → Prop), (∀ s1 us, Inv X pins σ H s1 → Vals vs us → us.length ≤ sizeLine → Q' us s1) → wpAny (model X.prog X.w) A.in1 (collect v) Q' E' s) (ok : sortOk ds = true)
    (h : ∀ (s' : Shared) (p : Addr) (ws : List V), ws = (sortP (vs.zip ds)).map (·.1) → H p = none → Inv X pins σ (upd H p (.lst ws)) s' → Q (.ref p) s') : wpAny (model X.prog X.w) A (call (.builtin "sorted") [v]) Q E s := by
  refine Calls.call_function_entry PyProof.Rows.kind_sorted PyProof.Rows.plain_sorted PyProof.Rows.entry_sorted ha ?_
  unfold Builtin.«sorted»
  refine wpAny_bind (m := checkCount "sorted" 1 1 _) (wpAny_pure (wpAny_bind (hcol _ _ fun s1 us I1 r hz => ?_)))
  refine wpAny_bind (wpAny_newList ?_ hz)
  refine wpAny_bind (wpAny_holding (wpAny_call_entry_kw PySem.F.slot_list_sort ⟨_, Heap.get?_push_size _ rfl, rfl⟩ PySem.F.entry_list_sort ?_ (PySem.F.args_list_sort_1 _)))
  show wpAny (model X.prog X.w) A.in1.in1 (Builtin.«list.sort» ⟨[.ref s1.heap.objs.size], []⟩) _ _ _
  refine sort_laid (tk := s1.toks) I1 (by show A.units + 1 + 1 + 64 < cLine; omega) r hd ok hz fun s' ws e I2 => ?_
  exact ⟨_, rfl, wpAny_pure ⟨_, rfl, h s' _ ws e (I1.hok.fresh (Nat.le_refl _)) I2⟩⟩
end

def rSortA (K : PySem.W.Frag) : List V → Hp → VK → Prop := fun xs H Q =>
  (∃ (a : Addr) (vs : List V) (ds : List D), xs = [.ref a] ∧ DpAll K H vs ds ∧ sortOk ds = true ∧ (SqL K H a vs ∨ SqT K H a vs ∨ ∃ kvs, Rd H a (.dK kvs) ∧ vs = kvs.map fun kv => kV kv.1) ∧
    ∀ p ws, ws = (sortP (vs.zip ds)).map (·.1) → H p = none → Q (.ref p) (upd H p (.lst ws))) ∨
  ∃ (a : Addr) (kvs : List (List Key × V)), xs = [.ref a] ∧ Rd H a (.dT kvs) ∧ sortOk (kvs.map fun kv => .tuple (kv.1.map kD)) = true ∧
    ∀ bs p ws, IsKeys H kvs bs → ws = (sortP ((bs.map V.ref).zip (kvs.map fun kv => .tuple (kv.1.map kD)))).map (·.1) → H p = none → Q (.ref p) (upd H p (.lst ws))
section
variable {X : Cx}
theorem dpAll_keysT {K : PySem.W.Frag} {H : Hp} : ∀ {ks : List Key}, DpAll K H (ks.map kV) (ks.map kD)
  | [] => .nil
  | .inl i :: ks => .cons (.int i) dpAll_keysT
  | .inr x :: ks => .cons (.str x) dpAll_keysT
theorem acc_of {P : Nat → Value → Prop} {acc : Array Value} {vs : List V} (h : ItemsOf P acc vs.length) (hp : ∀ (j : Nat) (u : Value) (v : V), vs[j]? = some v → P j u → RelV v u) : Vals vs acc.toList := by
  obtain ⟨h1, h2⟩ := h
  have go : ∀ (vs : List V) (us : List Value), us.length = vs.length → (∀ (j : Nat) u v, us[j]? = some u → vs[j]? = some v → RelV v u) → Vals vs us := by
    intro vs
    induction vs with
    | nil => intro us hl _; cases us with | nil => exact .nil | cons _ _ => simp at hl
    | cons v vs ih =>
      intro us hl hr
      cases us with
      | nil => simp at hl
      | cons u us => exact .cons (hr 0 u v rfl rfl) (ih us (by simpa using hl) fun j u' v' a b => hr (j + 1) u' v' (by simpa using a) (by simpa using b))
  exact go vs acc.toList (by rw [Array.length_toList]; exact h1) fun j u v e1 e2 => hp j u v e2 (h2 j u (by rw [← Array.getElem?_toList]; exact e1))
theorem cr_sortedA (hc : X.calm = true) (hu : X.A.units + 70 < cLine) : CallR X (.builtin "sorted") (rSortA X.K) := fun pins s σ H xs us Q I r h => by
  rcases h with ⟨a, vs, ds, rfl, hd, ok, hl | hl | ⟨kvs, rd, rfl⟩, q⟩ | ⟨a, kvs, rfl, rd, ok, q⟩
  all_goals
    obtain ⟨u, rfl, rx⟩ := vals1 r
    cases rx
  · obtain ⟨its, rv, p, hz⟩ := I.list hl
    refine sortedGo hu (PyProof.Rows.args_sorted1 _) hd (fun Q' E' hq => ?_) ok fun s' p ws e n I' => ⟨.ref p, _, I', rfl, q p ws e n⟩
    have hz' : its.length ≤ sizeLine := by rw [← rv.length]; exact hz
    refine collect_list p.isList (hq _ _ (I.kept (t' := s.toks) fun b o e => ?_) rv hz') hz'
    rw [Heap.get?_update_ne _ _ _ _ (Nat.ne_of_lt (Heap.lt_size e))]
    exact Heap.get?_push_of_some _ e
  · obtain ⟨its, rv, p, hz⟩ := I.tuple hl
    refine sortedGo hu (PyProof.Rows.args_sorted1 _) hd (fun Q' E' hq => ?_) ok fun s' p ws e n I' => ⟨.ref p, _, I', rfl, q p ws e n⟩
    have hz' : its.length ≤ sizeLine := by rw [← rv.length]; exact hz
    obtain ⟨o, ho, hcl, m, hdt⟩ := p
    refine wpAny_collect_seq a (.inr rfl) ho hcl hdt (fun h' hk => ?_) (by rw [List.size_toArray]; exact hz')
    have e : its.toArray.toList = its := by simp
    rw [e]
    exact hq _ _ (I.kept (t' := s.toks) hk) rv hz'
  · obtain ⟨z, lo, ks, rel, dd⟩ := dk_rd I.hok rd
    obtain ⟨ep, hat⟩ := dd.dictAt
    have hl : kvs.length = ks.length := rel.length
    refine sortedGo hu (PyProof.Rows.args_sorted1 _) hd (fun Q' E' hq => ?_) ok fun s' p ws e n I' => ⟨.ref p, _, I', rfl, q p ws e n⟩
    refine PySem.W.kdu_collect (A := X.A.in1) (PySem.W.kdl_dict (knd := mixKind X.prog X.w) (kvs := ks) (ep := ep) lo) (I.ok.hd hc) hat (by omega) fun h' tk acc hk hacc => ?_
    have hv : Vals (kvs.map fun kv => kV kv.1) acc.toList := by
      refine acc_of (by rw [List.length_map, hl]; exact hacc) fun j u v hj hp => ?_
      obtain ⟨k, x, e1, e2⟩ := hp
      rw [List.getElem?_map] at hj
      cases hkv : kvs[j]? with
      | none => rw [hkv] at hj; cases hj
      | some kv =>
        rw [hkv] at hj
        cases hj
        obtain ⟨k', v'⟩ := kv
        obtain ⟨w', hw, _⟩ := kv_get rel hkv
        rw [e1] at hw
        cases hw
        exact relV_key (show keyIs k u = true from e2)
    exact hq _ _ (I.kept (t' := tk) hk) hv (by rw [← hv.length, List.length_map]; exact z)
  · obtain ⟨z, lo, ks, pr, o, es, ep, ho, hx, hdt, he, hn⟩ := (show ObjOk X.prog X.w H s.heap a (.dT kvs) from rd.ok I.hok)
    have l1 : es.size = ks.length := size_of_entries he
    have l2 : kvs.length = ks.length := Paired.length pr
    have isk := isKeys_of pr
    have hd : ∀ {kvs : List (List Key × V)} {bs : List Addr}, IsKeys H kvs bs → DpAll X.K H (bs.map V.ref) (kvs.map fun kv => .tuple (kv.1.map kD)) := by
      intro kvs bs h
      unfold IsKeys at h
      induction h with
      | nil => exact .nil
      | cons h _ ih => exact .cons (.tup (SqT.of h) dpAll_keysT) ih
    refine sortedGo hu (PyProof.Rows.args_sorted1 _) (hd isk) (fun Q' E' hq => ?_) ok fun s' p ws e n I' => ⟨.ref p, _, I', rfl, q _ p ws isk e n⟩
    refine PySem.W.kdu_collect (A := X.A.in1) (kdl_raw lo hx hdt) (I.ok.hd hc) ho (by omega) fun h' tk acc hk hacc => ?_
    have hv : Vals ((ks.map fun x => x.2.1).map V.ref) acc.toList := by
      refine acc_of (by rw [List.length_map, List.length_map, ← l1]; exact hacc) fun j u v hj hp => ?_
      obtain ⟨en, hen, rfl⟩ := hp
      have h1 : es.toList[j]? = some en := by rw [Array.getElem?_toList]; exact hen
      rw [he, List.getElem?_map] at h1
      rw [List.getElem?_map, List.getElem?_map] at hj
      cases hb : ks[j]? with
      | none => rw [hb] at hj; cases hj
      | some b =>
        rw [hb] at hj h1
        cases hj
        cases h1
        rfl
    exact hq _ _ (I.kept (t' := tk) hk) hv (by rw [← hv.length, List.length_map, List.length_map]; omega)
end
/-- the sorted pairs as data -/
theorem sortP_dt {K : PySem.W.Frag} {F : Hp} {vs : List V} {ds : List D} (h : DtL K F vs ds) : DtL K F ((sortP (vs.zip ds)).map (·.1)) (sortD ds) := by
  have hz : (vs.zip ds).map (·.2) = ds := zip_snd h.length
  have e : sortD ds = (sortP (vs.zip ds)).map (·.2) := by rw [sortP_snd, hz]
  rw [e]
  have mem : ∀ p ∈ sortP (vs.zip ds), Dt K F p.1 p.2 := fun p hp => by
    have hp' : p ∈ vs.zip ds := by
      unfold sortP at hp
      exact (List.mergeSort_perm _ _).mem_iff.mp hp
    have all : ∀ {vs : List V} {ds : List D}, DtL K F vs ds → ∀ p ∈ vs.zip ds, Dt K F p.1 p.2 := by
      intro vs
      induction vs with
      | nil => intro ds _ p hp; simp at hp
      | cons v vs ih =>
        intro ds h p hp
        cases h with
        | cons h1 h2 =>
          rw [List.zip_cons_cons] at hp
          rcases List.mem_cons.mp hp with rfl | hp
          · exact h1
          · exact ih h2 p hp
    exact all h p hp'
  generalize sortP (vs.zip ds) = l at mem
  induction l with
  | nil => exact .nil
  | cons p l ih => exact .cons (mem p List.mem_cons_self) (ih fun q hq => mem q (List.mem_cons_of_mem _ hq))
theorem DtL.dpA {K : PySem.W.Frag} {F H : Hp} (le : Same F H) {vs : List V} {ds : List D} (h : DtL K F vs ds) (c : PyData.canLayAll0 ds = true) : DpAll K H vs ds := DtL.dp le h c
def gSorted : List D → (D → Prop) → Prop
  | [.list ds], Q => PyData.canLayAll0 ds = true ∧ sortOk ds = true ∧ Q (.list (sortD ds))
  | [.tuple ds], Q => PyData.canLayAll0 ds = true ∧ sortOk ds = true ∧ Q (.list (sortD ds))
  | [.dict es], Q => sortOk (es.map (·.1)) = true ∧ Q (.list (sortD (es.map (·.1))))
  | _, _ => False
theorem DtK.keysEq {K : PySem.W.Frag} {F : Hp} : ∀ {kvs : List (Key × V)} {es : List (D × D)}, DtK K F kvs es → es.map (·.1) = kvs.map fun kv => kD kv.1
  | _, _, .nil => rfl
  | _, _, .cons _ t => by rw [List.map_cons, List.map_cons, t.keysEq]
theorem DtT.keysEq {K : PySem.W.Frag} {F : Hp} : ∀ {kvs : List (List Key × V)} {es : List (D × D)}, DtT K F kvs es → es.map (·.1) = kvs.map fun kv => .tuple (kv.1.map kD)
  | _, _, .nil => rfl
  | _, _, .cons _ t => by rw [List.map_cons, List.map_cons, t.keysEq]
theorem dpAll_kD {K : PySem.W.Frag} {H : Hp} : ∀ {kvs : List (Key × V)}, DpAll K H (kvs.map fun kv => kV kv.1) (kvs.map fun kv => kD kv.1)
  | [] => .nil
  | (.inl i, _) :: r => .cons (.int i) dpAll_kD
  | (.inr x, _) :: r => .cons (.str x) dpAll_kD
theorem dtL_kD {K : PySem.W.Frag} {H : Hp} : ∀ {kvs : List (Key × V)}, DtL K H (kvs.map fun kv => kV kv.1) (kvs.map fun kv => kD kv.1)
  | [] => .nil
  | (k, _) :: r => .cons (.key k) dtL_kD
/-- the keys' tuples of a dict, frozen -/
def keysF (bs : List Addr) (F H : Hp) : Hp := fun b => match F b with
  | some o => some o
  | none => if b ∈ bs then (match H b with | some (.tup xs) => some (.tup xs) | _ => none) else none
theorem ext_keysF {sx : Sx} {F H : Hp} (b : Base sx F H) (bs : List Addr) : Ext2 sx F H (keysF bs F H) H where
  sF := fun c o h => by unfold keysF; rw [h]
  sH := fun _ _ h _ => h
  le := fun c o h => by
    unfold keysF at h
    cases q : F c with
    | some u => rw [q] at h; cases h; exact b.le _ _ q
    | none =>
      rw [q] at h
      dsimp only at h
      split at h
      · split at h
        · rename_i z; rw [← h]; exact z
        · cases h
      · cases h
  fr := fun c o h => by
    unfold keysF at h
    cases q : F c with
    | some u => rw [q] at h; cases h; exact .inl rfl
    | none =>
      rw [q] at h
      dsimp only at h
      split at h
      · split at h
        · cases h; exact .inr (.inr ⟨_, rfl⟩)
        · cases h
      · cases h
  ok := b.ok
theorem dtL_keysT {K : PySem.W.Frag} {sx : Sx} {F H : Hp} (b : Base sx F H) (all : List Addr) : ∀ {kvs : List (List Key × V)} {bs : List Addr}, IsKeys H kvs bs → (∀ c ∈ bs, c ∈ all) → DtL K (keysF all F H) (bs.map V.ref) (kvs.map fun kv => .tuple (kv.1.map kD)) := by
  intro kvs bs h
  unfold IsKeys at h
  induction h with
  | nil => intro _; exact .nil
  | @cons kv c kvs bs h _ ih =>
    intro hm
    refine .cons (.tup (xs := kv.1.map kV) ?_ (.keys _)) (ih fun c hc => hm c (List.mem_cons_of_mem _ hc))
    unfold keysF
    cases q : F c with
    | some u =>
      have := b.le _ _ q
      rw [h] at this
      cases this
      rfl
    | none =>
      dsimp only
      rw [if_pos (hm c List.mem_cons_self), h]
theorem cs_sorted {K : PySem.W.Frag} : CSemL K (rSortA K) gSorted := fun {sx F H vs ds Q R} b h hg k => by
  unfold gSorted at hg
  split at hg
  · obtain ⟨v, rfl, h1⟩ := Nws.one h
    obtain ⟨a, xs, rfl, h2, h3⟩ := h1.list b.le
    refine .inl ⟨a, xs, _, rfl, h3.dpA b.le hg.1, hg.2.1, .inl (SqL.of h2), fun p ws e hp => ?_⟩
    subst e
    exact k.new b hg.2.2 (sortP_dt h3) p hp
  · obtain ⟨v, rfl, h1⟩ := Nws.one h
    obtain ⟨a, xs, rfl, h2, h3⟩ := h1.tupleH b.le
    refine .inl ⟨a, xs, _, rfl, h3.dpA b.le hg.1, hg.2.1, .inr (.inl h2), fun p ws e hp => ?_⟩
    subst e
    exact k.new b hg.2.2 (sortP_dt h3) p hp
  · obtain ⟨v, rfl, h1⟩ := Nws.one h
    obtain ⟨a, rfl, ⟨kvs, rd, h3⟩ | ⟨kvs, rd, h3⟩⟩ := h1.dict b.le
    · rw [h3.keysEq] at hg
      refine .inl ⟨a, _, _, rfl, dpAll_kD, hg.1, .inr (.inr ⟨kvs, rd, rfl⟩), fun p ws e hp => ?_⟩
      subst e
      exact k.new b hg.2 (sortP_dt dtL_kD) p hp
    · rw [h3.keysEq] at hg
      refine .inr ⟨a, kvs, rfl, rd, hg.1, fun bs p ws isk e hp => ?_⟩
      subst e
      have ex := ext_keysF b bs
      exact (k.ext ex).new (ex.base b) hg.2 (sortP_dt (dtL_keysT b bs isk fun _ h => h)) p hp
  · exact hg.elim
end W2

set_option Elab.async false
set_option linter.all false
set_option maxRecDepth 100000
/-! W2U: repr, sums, what enumerate, zip and items walk. -/
namespace W2
open PySem PySem.Spec PyProof.Rows L2

/-! ### repr -/
/-- a text is at most so long -/
def reprOk (d : D) : Bool := d.canLay0 && d.showable && decide (d.depth ≤ 64) && decide (d.shown.length ≤ 16777216)
theorem noDict_of_lay : ∀ d : D, d.canLay0 = true → d.hasDict = false := by
  have go : (∀ d : D, d.canLay0 = true → d.hasDict = false) ∧ True := by
    refine ⟨?_, trivial⟩
    intro d
    exact PyData.rec (motive_1 := fun d => d.canLay0 = true → d.hasDict = false) (motive_2 := fun ds => PyData.canLayAll0 ds = true → PyData.hasDictAll ds = false) (motive_3 := fun _ => True) (motive_4 := fun _ => True)
      (fun _ => rfl) (fun _ _ => rfl) (fun _ _ => rfl) (fun _ _ => rfl)
      (fun xs ih h => by simpa [PyData.hasDict] using ih (by simpa [PyData.canLay0] using h))
      (fun xs ih h => by simpa [PyData.hasDict] using ih (by simpa [PyData.canLay0] using h))
      (fun kvs _ h => by simp [PyData.canLay0] at h)
      (fun _ => rfl)
      (fun x xs i1 i2 h => by
        have h' : x.canLay0 = true ∧ PyData.canLayAll0 xs = true := by simpa [PyData.canLayAll0] using h
        simp [PyData.hasDictAll, i1 h'.1, i2 h'.2])
      trivial (fun _ _ _ _ => trivial) (fun _ _ _ _ => trivial) d
  exact go.1
def rRepr (K : PySem.W.Frag) : List V → Hp → VK → Prop := fun xs H Q => ∃ x d, xs = [x] ∧ Dp K H x d ∧ reprOk d = true ∧ Q (.str d.shown) H
theorem cr_repr {X : Cx} (hu : X.A.units + 70 < cLine) (hG : X.A.guards = some []) : CallR X (.builtin "repr") (rRepr X.K) := fun pins s σ H xs us Q I r h => by
  obtain ⟨x, d, rfl, hd, ok, q⟩ := h
  obtain ⟨u, rfl, rx⟩ := vals1 r
  unfold reprOk at ok
  rw [Bool.and_eq_true, Bool.and_eq_true, Bool.and_eq_true] at ok
  obtain ⟨⟨⟨h1, h2⟩, h3⟩, h4⟩ := ok
  have h3 := of_decide_eq_true h3
  have h4 : d.shown.length ≤ sizeLine := by rw [sizeLine_eq]; exact of_decide_eq_true h4
  obtain ⟨as, rd⟩ := Dp.reads I d x u hd rx
  have fin : ∀ (h' : Heap) (t tk : Nat), (∀ b o, s.heap.get? b = some o → h'.get? b = some o) → EP X pins σ Q (.str d.shown t) { s with heap := h', toks := tk } := fun h' t tk hk => ⟨.str _, H, I.kept (t' := tk) hk, ⟨_, rfl⟩, q⟩
  have none_ : d.hasDict = true → sysModules ∉ as := fun z => by rw [noDict_of_lay d h1] at z; cases z
  cases rd with
  | none => exact PySem.P.repr_of_none (fin _ _ _ fun _ _ e => e)
  | bool b => exact PySem.P.repr_of_bool (fin _ _ _ fun _ _ e => e)
  | int i t => exact PySem.P.repr_of_int (of_decide_eq_true (by simpa [PyData.showable] using h2)) (fin _ _ _ fun _ _ e => e)
  | str y t => exact PySem.P.repr_of_str (fin _ _ _ fun _ _ e => e) h4
  | list a1 a2 a3 a4 => exact repr_of_reads' (.list a1 a2 a3 a4) h2 none_ hG (by omega) (fun _ _ e => e) (fun h' u tk hk => fin h' u tk hk) h4
  | tuple a1 a2 a3 a4 => exact repr_of_reads' (.tuple a1 a2 a3 a4) h2 none_ hG (by omega) (fun _ _ e => e) (fun h' u tk hk => fin h' u tk hk) h4
  | dict a1 a2 a3 a4 a5 => simp [PyData.canLay0] at h1
def gRepr : List D → (D → Prop) → Prop
  | [d], Q => reprOk d = true ∧ Q (.str d.shown)
  | _, _ => False
theorem reprOk_lay {d : D} (h : reprOk d = true) : d.canLay0 = true := by
  unfold reprOk at h
  rw [Bool.and_eq_true, Bool.and_eq_true, Bool.and_eq_true] at h
  exact h.1.1.1
theorem cs_repr {K : PySem.W.Frag} : CSem K (rRepr K) gRepr := fun {sx F H vs ds Q R} b h hg k => by
  unfold gRepr at hg
  split at hg
  · obtain ⟨v, rfl, h1⟩ := Nws.one h
    exact ⟨v, _, rfl, h1.dp b.le (reprOk_lay hg.1), hg.1, k.now b hg.2 (.str _)⟩
  · exact hg.elim

/-! ### sums, greatest, least, of lists of ints -/
def intsOf : List D → Option (List Int)
  | [] => some []
  | .int i :: r => (intsOf r).map (i :: ·)
  | _ :: _ => none
theorem intsOf_some : ∀ {ds : List D} {ns : List Int}, intsOf ds = some ns → ds = ns.map PyData.int
  | [], ns, h => by cases h; rfl
  | d :: r, ns, h => by
    cases d <;> first | (cases h; done) | skip
    rename_i i
    cases q : intsOf r with
    | none => rw [intsOf, q] at h; cases h
    | some ms =>
      rw [intsOf, q] at h
      cases h
      rw [intsOf_some q]
      rfl
theorem intsOf_map (ns : List Int) : intsOf (ns.map PyData.int) = some ns := by
  induction ns with
  | nil => rfl
  | cons n ns ih => rw [List.map_cons, intsOf, ih]; rfl
def gSum : List D → (D → Prop) → Prop
  | [.list ds], Q => ∃ ns, intsOf ds = some ns ∧ Q (.int ns.sum)
  | [.tuple ds], Q => ∃ ns, intsOf ds = some ns ∧ Q (.int ns.sum)
  | _, _ => False
def gMaxL : List D → (D → Prop) → Prop
  | [.list ds], Q => ∃ ns, intsOf ds = some ns ∧ 0 < ns.length ∧ ∀ m, m ∈ ns → (∀ y, y ∈ ns → y ≤ m) → Q (.int m)
  | _, _ => False
def gMinL : List D → (D → Prop) → Prop
  | [.list ds], Q => ∃ ns, intsOf ds = some ns ∧ 0 < ns.length ∧ ∀ m, m ∈ ns → (∀ y, y ∈ ns → m ≤ y) → Q (.int m)
  | _, _ => False
theorem cs_max {K : PySem.W.Frag} : CSem K (rMax K) gMaxL := fun {sx F H vs ds Q R} b h hg k => by
  unfold gMaxL at hg
  split at hg
  · obtain ⟨v, rfl, h1⟩ := Nws.one h
    obtain ⟨a, xs, rfl, h2, h3⟩ := h1.list b.le
    obtain ⟨ns, e, l, q⟩ := hg
    rw [intsOf_some e] at h3
    rw [h3.intsV] at h2
    exact ⟨a, ns, rfl, SqL.of h2, l, fun m hm hy => k.now b (q m hm hy) (.int _)⟩
  · exact hg.elim
theorem cs_min {K : PySem.W.Frag} : CSem K (rMin K) gMinL := fun {sx F H vs ds Q R} b h hg k => by
  unfold gMinL at hg
  split at hg
  · obtain ⟨v, rfl, h1⟩ := Nws.one h
    obtain ⟨a, xs, rfl, h2, h3⟩ := h1.list b.le
    obtain ⟨ns, e, l, q⟩ := hg
    rw [intsOf_some e] at h3
    rw [h3.intsV] at h2
    exact ⟨a, ns, rfl, SqL.of h2, l, fun m hm hy => k.now b (q m hm hy) (.int _)⟩
  · exact hg.elim
def gSumL : List D → (D → Prop) → Prop
  | [.list ds], Q => ∃ ns, intsOf ds = some ns ∧ Q (.int ns.sum)
  | _, _ => False
theorem cs_sum {K : PySem.W.Frag} : CSem K (rSum K) gSumL := fun {sx F H vs ds Q R} b h hg k => by
  unfold gSumL at hg
  split at hg
  · obtain ⟨v, rfl, h1⟩ := Nws.one h
    obtain ⟨a, xs, rfl, h2, h3⟩ := h1.list b.le
    obtain ⟨ns, e, q⟩ := hg
    rw [intsOf_some e] at h3
    rw [h3.intsV] at h2
    exact ⟨a, ns, rfl, SqL.of h2, k.now b q (.int _)⟩
  · exact hg.elim
def boolsOf : List D → Option (List Bool)
  | [] => some []
  | .bool i :: r => (boolsOf r).map (i :: ·)
  | _ :: _ => none
theorem boolsOf_some : ∀ {ds : List D} {ns : List Bool}, boolsOf ds = some ns → ds = ns.map PyData.bool
  | [], ns, h => by cases h; rfl
  | d :: r, ns, h => by
    cases d <;> first | (cases h; done) | skip
    rename_i i
    cases q : boolsOf r with
    | none => rw [boolsOf, q] at h; cases h
    | some ms =>
      rw [boolsOf, q] at h
      cases h
      rw [boolsOf_some q]
      rfl
theorem DtL.boolsV {K : PySem.W.Frag} {F : Hp} : ∀ {vs : List V} {ns : List Bool}, DtL K F vs (ns.map PyData.bool) → vs = ns.map V.bl
  | _, [], h => by cases h; rfl
  | _, n :: ns, h => by
    cases h with
    | cons a t =>
      cases a
      rw [t.boolsV]; rfl
def gAll : List D → (D → Prop) → Prop
  | [.list ds], Q => ∃ ns, boolsOf ds = some ns ∧ Q (.bool (ns.all id))
  | _, _ => False
def gAny : List D → (D → Prop) → Prop
  | [.list ds], Q => ∃ ns, boolsOf ds = some ns ∧ Q (.bool (ns.any id))
  | _, _ => False
theorem cs_all {K : PySem.W.Frag} : CSem K (rAll K) gAll := fun {sx F H vs ds Q R} b h hg k => by
  unfold gAll at hg
  split at hg
  · obtain ⟨v, rfl, h1⟩ := Nws.one h
    obtain ⟨a, xs, rfl, h2, h3⟩ := h1.list b.le
    obtain ⟨ns, e, q⟩ := hg
    rw [boolsOf_some e] at h3
    rw [h3.boolsV] at h2
    exact ⟨a, ns, rfl, SqL.of h2, k.now b q (.bl _)⟩
  · exact hg.elim
theorem cs_any {K : PySem.W.Frag} : CSem K (rAny K) gAny := fun {sx F H vs ds Q R} b h hg k => by
  unfold gAny at hg
  split at hg
  · obtain ⟨v, rfl, h1⟩ := Nws.one h
    obtain ⟨a, xs, rfl, h2, h3⟩ := h1.list b.le
    obtain ⟨ns, e, q⟩ := hg
    rw [boolsOf_some e] at h3
    rw [h3.boolsV] at h2
    exact ⟨a, ns, rfl, SqL.of h2, k.now b q (.bl _)⟩
  · exact hg.elim
end W2

set_option Elab.async false
set_option linter.all false
set_option maxRecDepth 100000
/-! W2V: what yields new tuples: enumerate, zip, items. -/
namespace W2
open PySem PySem.Spec PyProof.Rows L2

/-- at each turn a new tuple -/
def ItT (Fz : Hp → Prop) (n : Nat) (G : Hp → Nat → List V → Prop) : It :=
  ⟨fun i H => Fz H ∧ i < n, fun i H x H' => ∃ T vs, x = .ref T ∧ H T = none ∧ H' = upd H T (.tup vs) ∧ G H i vs, fun i H => Fz H ∧ i = n⟩
theorem turn_T {P : Program} {w : World} {K : PySem.W.Frag} {elts : List Expr} {kk : Nat} {tpos : Pos} {Y : Type} {I : Addr} {wr : List Addr} {n : Nat} {fp : Y → List Addr} {nY : Y → Nat} {Pt : Y → Nat → Array Value → Prop} {St : Y → Nat → Heap → Prop} {Mid : Y → Nat → Addr → Heap → Prop} {Itr : Nat → Heap → Prop} {Sc : Y → Heap → Prop} {Fz : Hp → Prop} {G : Hp → Nat → List V → Prop}
    (W : ∀ (y : Y) (A : Around), A.handled = none → WalksT P w A I (fp y) wr (nY y) (Pt y) (St y) (Mid y)) (hst : ∀ y i h, Itr i h → Sc y h → St y i h) (hts : ∀ y i h, St y i h → Itr i h) (hI : I ∈ wr)
    (hobj : ∀ i h, Itr i h → ∀ b ∈ wr, ∃ o, h.get? b = some o ∧ ∀ v, o.data ≠ .cell v) (hkeep : ∀ i h h', Itr i h → (∀ b ∈ wr, ∀ o, h.get? b = some o → h'.get? b = some o) → Itr i h')
    (hsrc : ∀ (X : Cx) (pins : List (Addr × Obj)) (σ : L2.St) (H : Hp) (s : Shared), X.prog = P → X.w = w → X.K = K → Inv X pins σ H s → Fz H →
      ∃ y, Sc y s.heap ∧ nY y = n ∧ ∀ i vals, i < n → Pt y i vals → ∃ vs, Vals vs vals.toList ∧ G H i vs ∧ vs.length ≤ 1000)
    (hself : ∀ (A : Around) (i : Nat) (s : Shared) (Q : Value → Shared → Prop) (E : Value → Shared → Prop), Itr i s.heap → Q (.ref I) s → wpAny (model P w) A (pyIter (.ref I)) Q E s) :
    Turn P w K (.Tuple elts kk tpos) (ItT Fz n G) wr I Itr where
  mem := hI
  obj := hobj
  keep := hkeep
  item := by
    intro X hP hw hK hc i pins s σ H E Iv hf st hg
    obtain ⟨y, hs, hn, hval⟩ := hsrc X pins σ H s hP hw hK Iv hg.1
    have WX := W y X.A (Iv.ok.hd hc)
    refine WX.item i s _ _ (by rw [hn]; exact hg.2) (hst y _ _ st hs) fun T vals h' tk hp hT ht hm hk => ?_
    obtain ⟨vs, hv, hG, hl⟩ := hval i vals hg.2 hp
    refine ⟨_, rfl, WX.go elts kk tpos i T { s with heap := h', toks := tk } _ _ hm fun h'' st' hk' => ?_⟩
    have hTw := WX.apart i T h' hm
    obtain ⟨o, ho, hcl, m, hd⟩ := ht
    have ho' : h''.get? T = some o := hk' T o hTw ho
    have new : ObjOk X.prog X.w (upd H T (.tup vs)) h'' T (.tup vs) := ⟨Nat.le_trans hl (by decide), vals.toList, hv, ⟨o, ho', hcl, m, by rw [hd, Array.toArray_toList]⟩⟩
    have I1 : Inv X pins σ (upd H T (.tup vs)) { s with heap := h'', toks := tk } := Iv.turnedNew (ch := wr) (fun b ob hb e => hk' b ob hb (hk b ob hb e)) hf hT new
    have nw : ∀ b ∈ wr, b ≠ T := fun b hb z => hTw (z ▸ hb)
    exact ⟨.ref T, _, I1, rfl, ⟨T, vs, rfl, Iv.hok.fresh hT, rfl, hG⟩, hts y _ _ st', fun b hb => by rw [upd_ne (nw b hb)]; exact (hf b hb).1⟩
  done := by
    intro X hP hw hK hc i pins s σ H E Iv hf st hg
    obtain ⟨hg, rfl⟩ := hg
    obtain ⟨y, hs, hn, _⟩ := hsrc X pins σ H s hP hw hK Iv hg
    have WX := W y X.A (Iv.ok.hd hc)
    rw [hn] at WX
    exact WX.done s _ _ (hst y _ _ st hs) fun h' tk hk => ⟨rfl, Iv.turnedL hk hf⟩
  self := hself
/-! ### enumerate(x), a list's or a tuple's places -/
set_option maxHeartbeats 1000000 in
theorem meets_enum1 {v : Value} {o : Obj} {H : Heap → Prop} (B : Begins v o H) : Meets (Builtin.«enumerate.__new__» ⟨[.type "enumerate", v], []⟩) (fun _ R s => H s.heap ∧
    R (.ok (.ret (.ref (s.heap.push o).objs.size))) { s with heap := (s.heap.push o).push { cls := .type "enumerate", data := .fields #[.none, .bool false, .ref s.heap.objs.size, rawInt 0, .none, .none] } }) :=
  .of_wp fun prog w A R s h => by
    obtain ⟨hp, g, d, tk, os⟩ := s
    obtain ⟨h1, h⟩ := h
    have hsub := sub_enumerate
    have q1 : ∀ {A' : Around} {E : Value → Shared → Prop} {Q : Value → Shared → Prop}, Q (.ref hp.objs.size) ⟨hp.push o, g, d, tk, os⟩ → wpAny (model prog w) A' (pyIter v) Q E ⟨hp, g, d, tk, os⟩ := fun q => B.iter prog w _ _ ⟨hp, g, d, tk, os⟩ _ h1 q
    wp_walk using q1
    refine wpAny_stack_any fun st => wpAny_pure ?_
    split
    · rename_i c _ _ _ _ _
      cases (c == Value.type "enumerate") <;> (wp_walk using q1; exact ⟨_, rfl, h⟩)
    · wp_walk using q1
      exact ⟨_, rfl, h⟩
theorem call_enum1 {prog : Program} {w : World} {A : Around} {E : Value → Shared → Prop} {s : Shared} {v : Value} {o : Obj} {H : Heap → Prop} {Q : Value → Shared → Prop} (B : Begins v o H) (h1 : H s.heap)
    (h : ∀ h', IsEnum h' (s.heap.objs.size + 1) s.heap.objs.size 0 .none → h'.get? s.heap.objs.size = some o → (∀ b o, s.heap.get? b = some o → h'.get? b = some o) → Q (.ref (s.heap.objs.size + 1)) { s with heap := h' }) : wpAny (model prog w) A (call (.type "enumerate") [v]) Q E s := by
  refine callType_new PySem.F.called_enumerate (by decide) (PySem.F.typeCall_enumerate_1 _) (PySem.F.newCall_enumerate_1 _) (fun obj => PySem.F.args_object_init_2 obj _) PySem.F.entry_enumerate_new (meets_enum1 B) ⟨h1, ?_⟩
  have hz : (s.heap.push o).objs.size = s.heap.objs.size + 1 := Heap.size_push ..
  have he : IsEnum ((s.heap.push o).push { cls := .type "enumerate", data := .fields #[.none, .bool false, .ref s.heap.objs.size, rawInt 0, .none, .none] }) (s.heap.objs.size + 1) s.heap.objs.size 0 .none := by
    have q := Heap.get?_push_size (s.heap.push o) (o := { cls := .type "enumerate", data := .fields #[.none, .bool false, .ref s.heap.objs.size, rawInt 0, .none, .none] }) rfl
    rw [hz] at q
    exact q
  show _ ∧ _
  rw [hz]
  exact ⟨⟨_, he, rfl⟩, h _ he (Heap.get?_push_of_some _ (Heap.get?_push_size _ B.free)) fun b u z => Heap.get?_push_of_some _ (Heap.get?_push_of_some _ z)⟩
/-- the places of a list or a tuple -/
def EnG (items : Hp → List V → Prop) (H : Hp) (i : Nat) (vs : List V) : Prop := ∃ xs x, items H xs ∧ xs[i]? = some x ∧ vs = [.int (i : Nat), x]
def iEnumA (K : PySem.W.Frag) (ta : TA) : TI := fun σ H R => ta σ H fun us H1 => ∃ a xs, us = [.ref a] ∧
  ((SqL K H1 a xs ∧ R (ItT (fun H => SqL K H a xs) xs.length fun _ i vs => ∃ x, xs[i]? = some x ∧ vs = [.int (i : Nat), x]) H1) ∨ (SqT K H1 a xs ∧ R (ItT (fun H => SqT K H a xs) xs.length fun _ i vs => ∃ x, xs[i]? = some x ∧ vs = [.int (i : Nat), x]) H1))
theorem enum_obj {e it : Addr} {h : Heap} {c : Int} {old : Value} (he : IsEnum h e it c old) (hi : ∃ o, h.get? it = some o ∧ ∀ v, o.data ≠ .cell v) : ∀ b ∈ [e, it], ∃ o, h.get? b = some o ∧ ∀ v, o.data ≠ .cell v := fun b hb => by
  have hb' : b = e ∨ b = it := by simpa using hb
  rcases hb' with rfl | rfl
  · exact ⟨_, he, fun v q => nomatch q⟩
  · exact hi
theorem enum_val {K : PySem.W.Frag} {xs : List V} {its : List Value} (rv : Vals xs its) {i : Nat} {vals : Array Value} (h : ∃ t x, its.toArray[i]? = some x ∧ vals = #[.int (0 + (i : Int)) t, x]) : ∃ vs, Vals vs vals.toList ∧ (∃ x, xs[i]? = some x ∧ vs = [V.int (i : Nat), x]) ∧ vs.length ≤ 1000 := by
  obtain ⟨t, x, hx, rfl⟩ := h
  have hx' : its[i]? = some x := by simpa using hx
  have lt : i < xs.length := by rw [rv.length]; exact (List.getElem?_eq_some_iff.mp hx').1
  obtain ⟨u, hu, ru⟩ := rv.get (List.getElem?_eq_getElem lt)
  rw [hx'] at hu
  cases hu
  refine ⟨[.int (i : Nat), xs[i]], .cons ⟨t, ?_⟩ (.cons ru .nil), ⟨_, List.getElem?_eq_getElem lt, rfl⟩, by show 2 ≤ 1000; decide⟩
  rw [Int.zero_add]
theorem turn_enumL {P : Program} {w : World} {K : PySem.W.Frag} {elts : List Expr} {kk : Nat} {tpos : Pos} {e it a : Addr} {xs : List V} (hei : e ≠ it) (hea : e ≠ a) (hia : a ≠ it) :
    Turn P w K (.Tuple elts kk tpos) (ItT (fun H => SqL K H a xs) xs.length fun _ i vs => ∃ x, xs[i]? = some x ∧ vs = [.int (i : Nat), x]) [e, it] e (fun i h => (∃ old, IsEnum h e it (0 + (i : Int)) old) ∧ h.IsListIter it a i) :=
  turn_T (Y := List Value) (fp := fun _ => [e, it, a]) (nY := fun its => its.toArray.size) (Sc := fun its h => h.IsList a its.toArray) (W := fun its A hh => WalksT.enumFrom 0 (Draws.list (A := A.in1) hh it a hia its.toArray) e hei (by simp [hei, hea]) (by simp)) (fun _ i h x y => ⟨x.1, x.2, y⟩) (fun _ i h x => ⟨x.1, x.2.1⟩) (by simp)
    (fun i h ⟨⟨old, he⟩, ⟨o, ho, hc, hd⟩⟩ => enum_obj he ⟨o, ho, fun v q => by rw [hd] at q; cases q⟩)
    (fun i h h' ⟨⟨old, he⟩, hi⟩ k => ⟨⟨old, k e (by simp) _ he⟩, hi.at fun o q => k it (by simp) o q⟩)
    (fun X pins σ H s hP hw hK I hz => by
      subst hP hw hK
      obtain ⟨its, rv, p, _⟩ := I.list hz
      exact ⟨its, p.isList, by rw [List.size_toArray]; exact rv.length.symm, fun i vals _ h => enum_val (K := X.K) rv h⟩)
    (fun A i s Q E ⟨⟨old, he⟩, _⟩ q => wpAny_pyIter_enum he q)
theorem turn_enumT {P : Program} {w : World} {K : PySem.W.Frag} {elts : List Expr} {kk : Nat} {tpos : Pos} {e it a : Addr} {xs : List V} (hei : e ≠ it) (hea : e ≠ a) (hia : a ≠ it) :
    Turn P w K (.Tuple elts kk tpos) (ItT (fun H => SqT K H a xs) xs.length fun _ i vs => ∃ x, xs[i]? = some x ∧ vs = [.int (i : Nat), x]) [e, it] e (fun i h => (∃ old, IsEnum h e it (0 + (i : Int)) old) ∧ h.IsTupleIter it a i) :=
  turn_T (Y := List Value) (fp := fun _ => [e, it, a]) (nY := fun its => its.toArray.size) (Sc := fun its h => h.IsTuple a its.toArray) (W := fun its A hh => WalksT.enumFrom 0 (Draws.tuple (A := A.in1) hh it a hia its.toArray) e hei (by simp [hei, hea]) (by simp)) (fun _ i h x y => ⟨x.1, x.2, y⟩) (fun _ i h x => ⟨x.1, x.2.1⟩) (by simp)
    (fun i h ⟨⟨old, he⟩, ⟨o, ho, hc, hd⟩⟩ => enum_obj he ⟨o, ho, fun v q => by rw [hd] at q; cases q⟩)
    (fun i h h' ⟨⟨old, he⟩, hi⟩ k => ⟨⟨old, k e (by simp) _ he⟩, hi.at fun o q => k it (by simp) o q⟩)
    (fun X pins σ H s hP hw hK I hz => by
      subst hP hw hK
      obtain ⟨its, rv, p, _⟩ := I.tuple hz
      exact ⟨its, p, by rw [List.size_toArray]; exact rv.length.symm, fun i vals _ h => enum_val (K := X.K) rv h⟩)
    (fun A i s Q E ⟨⟨old, he⟩, _⟩ q => wpAny_pyIter_enum he q)
section
variable {X : Cx} {e : Expr} {te : TE} {we : WE} {ta : TA} {elts : List Expr} {kk : Nat} {tpos p pos apos cpos : Pos}
theorem pi_enumA (hg : Gl X "enumerate") (hm : X.mg "enumerate" = none) (ha : PA X [e] ta) (hs : starEach [e] X.env = [(false, eval e X.env)] := by rfl) : PI X (.Tuple elts kk tpos) (.Call (.Name "enumerate" p) [e] [] pos) (iEnumA X.K ta) := by
  refine ⟨fun pins s σ H R I h => Call_ (ld_blt I hg hm boot_enumerate (PyProof.Rows.callWith_type1 (thn (ha.run pos pins s σ H _ I h) fun us s1 ⟨vs, H1, I1, r1, q1⟩ => ?_) hs rfl))⟩
  obtain ⟨a, xs, rfl, q⟩ := q1
  obtain ⟨u, rfl, rx⟩ := vals1 r1
  cases rx
  have fpo : ∀ b ∈ [s1.heap.objs.size + 1, s1.heap.objs.size], FpOk X pins H1 b := fun b hb => by
    have e' : b = s1.heap.objs.size + 1 ∨ b = s1.heap.objs.size := by simpa using hb
    have hle : s1.heap.objs.size ≤ b := by rcases e' with z | z <;> omega
    exact I1.fpOk hle (I1.hok.fresh hle)
  rcases q with ⟨hq, q⟩ | ⟨hq, q⟩
  · obtain ⟨its, rv, p', hz⟩ := I1.list hq
    have lt : a < s1.heap.objs.size := by obtain ⟨o, ho, _⟩ := p'.isList; exact Heap.lt_size ho
    refine call_enum1 (begins_list a its.toArray) p'.isList fun h' he hit hk => wpAny_pyIter_enum he ?_
    exact ⟨_, [s1.heap.objs.size + 1, s1.heap.objs.size], _, _, H1, rfl, I1.kept (t' := s1.toks) hk, turn_enumL (e := s1.heap.objs.size + 1) (it := s1.heap.objs.size) (Nat.succ_ne_self _) (Nat.ne_of_gt (Nat.lt_succ_of_lt lt)) (Nat.ne_of_lt lt), ⟨⟨.none, he⟩, _, hit, rfl, rfl⟩, fpo, q⟩
  · obtain ⟨its, rv, p', hz⟩ := I1.tuple hq
    have pt : s1.heap.IsTuple a its.toArray := p'
    have lt : a < s1.heap.objs.size := by obtain ⟨o, ho, _⟩ := pt; exact Heap.lt_size ho
    refine call_enum1 (begins_tuple a its.toArray) pt fun h' he hit hk => wpAny_pyIter_enum he ?_
    exact ⟨_, [s1.heap.objs.size + 1, s1.heap.objs.size], _, _, H1, rfl, I1.kept (t' := s1.toks) hk, turn_enumT (e := s1.heap.objs.size + 1) (it := s1.heap.objs.size) (Nat.succ_ne_self _) (Nat.ne_of_gt (Nat.lt_succ_of_lt lt)) (Nat.ne_of_lt lt), ⟨⟨.none, he⟩, _, hit, rfl, rfl⟩, fpo, q⟩
/-- a new tuple of frozen values -/
theorem it_T {K : PySem.W.Frag} {sx : Sx} {F : Hp} {Fz : Hp → Prop} {n : Nat} {G : Hp → Nat → List V → Prop} {ds : List (List D)} (hn : ds.length = n) (hz : ∀ F' H', Same F F' → Base sx F' H' → Fz H')
    (hG : ∀ {F' H' : Hp} {i : Nat} {vs : List V} {es : List D}, Same F F' → Base sx F' H' → ds[i]? = some es → G H' i vs → ∃ F'', Ext2 sx F' H' F'' H' ∧ DtL K F'' vs es) : ItOk K sx F (ItT Fz n G) (ds.map PyData.tuple) where
  go := fun s b hi => ⟨hz _ _ s b, by rw [← hn]; simpa using hi⟩
  yld := fun {F' H' H'' i x d} s b hi y => by
    obtain ⟨T, vs, rfl, hT, rfl, g⟩ := y
    rw [List.getElem?_map] at hi
    cases q : ds[i]? with
    | none => rw [q] at hi; cases hi
    | some es =>
      rw [q] at hi
      cases hi
      obtain ⟨F1, e1, hd⟩ := hG s b q g
      have e2 := Ext2.new (o := .tup vs) (e1.base b) hT
      exact ⟨_, e1.trans e2, .tup upd_same (hd.mono e2.sF)⟩
  stop := fun s b => ⟨hz _ _ s b, by rw [List.length_map, hn]⟩
def enumD (ds : List D) : List (List D) := (ds.zipIdx).map fun p => [.int (p.2 : Nat), p.1]
theorem enumD_get {ds : List D} {i : Nat} {es : List D} (h : (enumD ds)[i]? = some es) : ∃ d, ds[i]? = some d ∧ es = [.int (i : Nat), d] := by
  unfold enumD at h
  rw [List.getElem?_map, List.getElem?_zipIdx] at h
  cases q : ds[i]? with
  | none => rw [q] at h; cases h
  | some d =>
    rw [q] at h
    cases h
    exact ⟨d, rfl, by simp⟩
theorem enumD_len (ds : List D) : (enumD ds).length = ds.length := by simp [enumD]
def wEnum (we : WE) : WI := fun η Q => we η fun d => match d with
  | .list ds => Q ((enumD ds).map PyData.tuple)
  | .tuple ds => Q ((enumD ds).map PyData.tuple)
  | _ => False
theorem en_dt {K : PySem.W.Frag} {F F' : Hp} {xs : List V} {ds : List D} (h : DtL K F xs ds) (s : Same F F') {i : Nat} {vs : List V} {es : List D} (he : (enumD ds)[i]? = some es) (g : ∃ x, xs[i]? = some x ∧ vs = [V.int (i : Nat), x]) : DtL K F' vs es := by
  obtain ⟨d, hd, rfl⟩ := enumD_get he
  obtain ⟨x, hx, rfl⟩ := g
  obtain ⟨v, hv, hh⟩ := h.get i hd
  rw [hx] at hv
  cases hv
  exact .cons (.int _) (.cons (hh.mono s) .nil)
theorem di_enum (hg : Gl X "enumerate") (hm : X.mg "enumerate" = none) (he : DE X e te we) (hs : starEach [e] X.env = [(false, eval e X.env)] := by rfl) : DI X (.Tuple elts kk tpos) (.Call (.Name "enumerate" p) [e] [] pos) (iEnumA X.K (tCons te tNil)) (wEnum we) :=
  ⟨pi_enumA hg hm (pa_cons he.pe pa_nil hs) hs, fun {sx H0 F0 F σ H η Q R} r hw k => he.sem r hw fun d v F1 H1 q e hd => by
    have le := (r.ext e).base.le
    cases d <;> first | exact q.elim | skip
    · cases hd with
      | lst h1 h2 => exact ⟨_, _, rfl, .inl ⟨SqL.of (le _ _ h1), k _ _ F1 H1 q e (it_T (by rw [enumD_len, h2.length]) (fun F' H' s b => SqL.of (b.le _ _ (s _ _ h1))) fun s b he g => ⟨_, .refl b, en_dt h2 s he g⟩)⟩⟩
    · cases hd with
      | tup h1 h2 => exact ⟨_, _, rfl, .inr ⟨SqT.of (le _ _ h1), k _ _ F1 H1 q e (it_T (by rw [enumD_len, h2.length]) (fun F' H' s b => SqT.of (b.le _ _ (s _ _ h1))) fun s b he g => ⟨_, .refl b, en_dt h2 s he g⟩)⟩⟩⟩
end
end W2

set_option Elab.async false
set_option linter.all false
set_option maxRecDepth 100000
/-! W2I: d.items(), whatever the keys. -/
namespace W2
open PySem PySem.Spec PyProof.Rows L2

theorem frzTv {X : Cx} {pins : List (Addr × Obj)} {σ : L2.St} {H : Hp} {s : Shared} {d : Addr} {o : Obj} {kvs : List (List Key × V)} (I : Inv X pins σ H s) (h : H d = some (.frz o (.dT kvs))) :
    (d == sysModules) = false ∧ ∃ (es : Array DictEntry) (ep : Nat), o.data = .dict es ep ∧ s.heap.DictRaw d es ep ∧ es.size = kvs.length ∧
      ∀ (i : Nat) (hi : i < es.size), ∃ (k : List Key) (v : V) (q : Addr), kvs[i]? = some (k, v) ∧ es[i].key = .ref q ∧ H q = some (.tup (k.map kV)) ∧ RelV v es[i].val := by
  obtain ⟨hd, z, hs, xs, pr, o', es, ep, ho, hx, hdt, he, _⟩ := I.hok d _ h
  rw [hd] at ho
  cases ho
  have l1 : es.size = xs.length := size_of_entries he
  have l2 : kvs.length = xs.length := Paired.length pr
  refine ⟨hs, es, ep, hdt, ⟨o, hd, hx, hdt⟩, by omega, fun i hi => ?_⟩
  have lt : i < kvs.length := by omega
  obtain ⟨b, hb, e1, e2, e3⟩ := paired_get pr (List.getElem?_eq_getElem lt)
  have q := entry_at he i
  rw [hb, Array.getElem?_eq_getElem hi] at q
  have q' : es[i] = entryOfKey (tupleKind (mixKind X.prog X.w)) b := Option.some.inj q
  refine ⟨kvs[i].1, kvs[i].2, b.2.1, List.getElem?_eq_getElem lt, ?_, e2, ?_⟩
  · rw [q']; rfl
  · rw [q']; exact e3
def ItmT (d : Addr) (o : Obj) (kvs : List (List Key × V)) : It := ItT (fun H => H d = some (.frz o (.dT kvs))) kvs.length fun H i vs => ∃ k v q, kvs[i]? = some (k, v) ∧ vs = [.ref q, v] ∧ H q = some (.tup (k.map kV))
theorem turn_itemsT {P : Program} {w : World} {K : PySem.W.Frag} {elts : List Expr} {kk : Nat} {tpos : Pos} {it d : Addr} {o : Obj} {kvs : List (List Key × V)} {es : Array DictEntry} {ep : Nat} (hne : d ≠ it) (hod : o.data = .dict es ep) (hsz : es.size = kvs.length) :
    Turn P w K (.Tuple elts kk tpos) (ItmT d o kvs) [it] it (fun i h => ∃ ok ov, IsItemIter h it d i es.size ep ok ov) :=
  turn_T (Y := Unit) (fp := fun _ => [it, d]) (nY := fun _ => es.size) (Sc := fun _ h => h.DictRaw d es ep) (W := fun _ A hh => WalksT.rawItems hh it d hne es ep) (fun _ i h x y => ⟨x, y⟩) (fun _ i h x => x.1) (by simp)
    (fun i h ⟨ok, ov, e⟩ b hb => by
      have hb' : b = it := by simpa using hb
      subst hb'
      exact ⟨_, e, fun v z => nomatch z⟩)
    (fun i h h' ⟨ok, ov, e⟩ k => ⟨ok, ov, k it (by simp) _ e⟩)
    (fun X pins σ H s hP hw hK I hz => by
      obtain ⟨hs, es', ep', hdt, raw, sz, g⟩ := frzTv I hz
      obtain ⟨rfl, rfl⟩ := dict_ep hod hdt
      refine ⟨(), raw, sz, fun i vals hi ⟨hi', e⟩ => ?_⟩
      obtain ⟨k, v, q, h1, h2, h3, h4⟩ := g i hi'
      subst e
      exact ⟨[.ref q, v], .cons h2 (.cons h4 .nil), ⟨k, v, q, h1, rfl, h3⟩, by show 2 ≤ 1000; decide⟩)
    (fun A i s Q E ⟨ok, ov, e⟩ q => wpAny_pyIter_itemiter e q)
def iItmA (td : TE) : TI := fun σ H R => td σ H fun x H1 => ∃ d o, x = .ref d ∧ ((∃ kvs, H1 d = some (.frz o (.dK kvs)) ∧ R (Iti d o kvs) H1) ∨ ∃ kvs, H1 d = some (.frz o (.dT kvs)) ∧ R (ItmT d o kvs) H1)
section
variable {X : Cx} {e : Expr} {te : TE} {we : WE} {elts : List Expr} {kk : Nat} {tpos apos cpos : Pos}
theorem pi_itmA (he : PE X e te) (hbase : attributeBase e "items" X.env (eval e X.env) = eval e X.env := by rfl) (hline : (apos.endLine == cpos.line) = true := by rfl) :
    PI X (.Tuple elts kk tpos) (.Call (.Attribute e "items" apos) [] [] cpos) (iItmA te) := by
  refine ⟨fun pins s σ H R I h => ?_⟩
  refine wpAny_Call_method (T := "dict") (id := "dict.items") hbase rfl hline F.plainAttrs_dict F.slot_dict_items F.type_dict_items (thn (he.run pins s σ H _ I h) fun u s1 ⟨x, H1, I1, rx, d, o, ex, q⟩ => ?_)
  subst ex
  obtain rfl : u = Value.ref d := rx
  rcases q with ⟨kvs, hd, q⟩ | ⟨kvs, hd, q⟩
  · obtain ⟨hs, hgd, hx, es, ep, vs, hdt, hsz, kv, hm⟩ := I1.frzK hd
    have hl : kvs.length = vs.length := Paired.length kv
    refine ⟨hm.dictOf.typeIs, hm.dictOf.mapOf.noDict, ?_⟩
    have I2 : Inv X pins σ H1 { s1 with heap := s1.heap.push { cls := .type "dict_items", data := .fields #[.ref d] } } := I1.kept (t' := s1.toks) fun b ob q => Heap.get?_push_of_some _ q
    have fin : wpAny (model X.prog X.w) X.A (pyIter (.ref s1.heap.objs.size)) (PIE X pins σ (.Tuple elts kk tpos) R) X.xe { s1 with heap := s1.heap.push { cls := .type "dict_items", data := .fields #[.ref d] } } := by
      refine wpAny_pyIter_items (d := d) (knd := mixKind X.prog X.w) ⟨_, Heap.get?_push_size _ rfl, rfl, rfl⟩ (hm.push _) (pi_one (tk := s1.toks) I2 _ (turn_items _ hdt) ⟨.none, .none, ?_⟩ q)
      rw [hl]
      exact Heap.get?_push_size _ rfl
    show wpAny _ _ (callWith cpos (.builtin "dict.items") [.ref d] [] []) _ X.xe s1
    exact method_meetsIn F.slot_dict_items F.entry_dict_items rfl (PySem.evalArgs_none ⟨rfl, hm.dictOf.typeIs, F.args_dict_items_1 _, _, meets_dict_items (mixKind X.prog X.w) d hs, ⟨vs, hm.dictOf⟩, fin⟩)
  · obtain ⟨hs, es, ep, hdt, raw, sz, g⟩ := frzTv I1 hd
    obtain ⟨t1, t2, _⟩ := isD_at I1 (.inr ⟨kvs, .inr ⟨o, hd⟩⟩)
    refine ⟨t1, t2, ?_⟩
    have I2 : Inv X pins σ H1 { s1 with heap := s1.heap.push { cls := .type "dict_items", data := .fields #[.ref d] } } := I1.kept (t' := s1.toks) fun b ob q => Heap.get?_push_of_some _ q
    have lt : d < s1.heap.objs.size := by obtain ⟨ob, ho, _⟩ := raw; exact Heap.lt_size ho
    have raw2 : (s1.heap.push { cls := .type "dict_items", data := .fields #[.ref d] }).DictRaw d es ep := raw.at fun ob q => Heap.get?_push_of_some _ q
    have fin : wpAny (model X.prog X.w) X.A (pyIter (.ref s1.heap.objs.size)) (PIE X pins σ (.Tuple elts kk tpos) R) X.xe { s1 with heap := s1.heap.push { cls := .type "dict_items", data := .fields #[.ref d] } } := by
      refine wpAny_pyIter_items_raw (d := d) (es := es) (ep := ep) ⟨_, Heap.get?_push_size _ rfl, rfl, rfl⟩ raw2 (pi_one (tk := s1.toks) I2 _ (turn_itemsT ?_ hdt sz) ⟨.none, .none, ?_⟩ q)
      · show d ≠ (s1.heap.push _).objs.size
        rw [Heap.size_push]
        exact Nat.ne_of_lt (Nat.lt_succ_of_lt lt)
      · exact Heap.get?_push_size _ rfl
    show wpAny _ _ (callWith cpos (.builtin "dict.items") [.ref d] [] []) _ X.xe s1
    exact method_meetsIn F.slot_dict_items F.entry_dict_items rfl (PySem.evalArgs_none ⟨rfl, t1, F.args_dict_items_1 _, _, meets_dict_items_raw d hs, ⟨es, ep, raw⟩, fin⟩)
def pairD (e : D × D) : D := .tuple [e.1, e.2]
theorem it_itmK {K : PySem.W.Frag} {sx : Sx} {F : Hp} {a : Addr} {o : Obj} {kvs : List (Key × V)} {es : List (D × D)} (h : F a = some (.frz o (.dK kvs))) (hd : DtK K F kvs es) : ItOk K sx F (Iti a o kvs) (es.map pairD) where
  go := fun {F' H' i} s b hi => ⟨b.le _ _ (s _ _ h), by rw [hd.length]; simpa using hi⟩
  yld := fun {F' H' H'' i x d} s b hi y => by
    obtain ⟨T, k, v, hk, rfl, hT, rfl⟩ := y
    obtain ⟨d', h1, h2⟩ := hd.key i hk
    rw [List.getElem?_map, h1] at hi
    cases hi
    have e2 := Ext2.new (o := .tup [kV k, v]) b hT
    exact ⟨_, e2, .tup upd_same (.cons (.key k) (.cons ((h2.mono s).mono e2.sF) .nil))⟩
  stop := fun {F' H'} s b => ⟨b.le _ _ (s _ _ h), by rw [hd.length]; simp⟩
theorem it_itmT {K : PySem.W.Frag} {sx : Sx} {F : Hp} {a : Addr} {o : Obj} {kvs : List (List Key × V)} {es : List (D × D)} (h : F a = some (.frz o (.dT kvs))) (hd : DtT K F kvs es) : ItOk K sx F (ItmT a o kvs) (es.map pairD) := by
  have q := it_T (K := K) (sx := sx) (F := F) (Fz := fun H => H a = some (.frz o (.dT kvs))) (n := kvs.length) (G := fun H i vs => ∃ k v q, kvs[i]? = some (k, v) ∧ vs = [.ref q, v] ∧ H q = some (.tup (k.map kV))) (ds := es.map fun e => [e.1, e.2])
    (by rw [List.length_map, hd.length]) (fun F' H' s b => b.le _ _ (s _ _ h)) (fun {F' H' i vs es'} s b he g => by
      obtain ⟨k, v, q, hk, rfl, hq⟩ := g
      obtain ⟨d', h1, h2⟩ := hd.key i hk
      rw [List.getElem?_map, h1] at he
      cases he
      have e2 := Ext2.keyTup b hq
      exact ⟨_, e2, .cons (.tup upd_same (.keys k)) (.cons ((h2.mono s).mono e2.sF) .nil)⟩)
  rw [List.map_map] at q
  exact q
def wItm (we : WE) : WI := fun η Q => we η fun d => match d with
  | .dict es => Q (es.map pairD)
  | _ => False
theorem di_itm (he : DE X e te we) (hbase : attributeBase e "items" X.env (eval e X.env) = eval e X.env := by rfl) (hline : (apos.endLine == cpos.line) = true := by rfl) :
    DI X (.Tuple elts kk tpos) (.Call (.Attribute e "items" apos) [] [] cpos) (iItmA te) (wItm we) :=
  ⟨pi_itmA he.pe hbase hline, fun {sx H0 F0 F σ H η Q R} r hw k => he.sem r hw fun d v F1 H1 q e hd => by
    have le := (r.ext e).base.le
    cases d <;> first | exact q.elim | skip
    cases hd with
    | dK h1 h2 => exact ⟨_, _, rfl, .inl ⟨_, le _ _ h1, k _ _ F1 H1 q e (it_itmK h1 h2)⟩⟩
    | dT h1 h2 => exact ⟨_, _, rfl, .inr ⟨_, le _ _ h1, k _ _ F1 H1 q e (it_itmT h1 h2)⟩⟩⟩
end
end W2

set_option Elab.async false
set_option linter.all false
set_option maxRecDepth 100000
/-! W2P: the law's source of numbers: what is laid, what a pick does. -/
namespace W2
open PySem PySem.Spec PyProof.Rows L2

abbrev rInt1 : List V → Hp → VK → Prop := fun xs H Q => (∃ i, xs = [.int i] ∧ Q (.int i) H) ∨ ∃ k, xs = [.bl k] ∧ Q (.int (if k then 1 else 0)) H
abbrev rAbs1 : List V → Hp → VK → Prop := fun xs H Q => ∃ i, xs = [.int i] ∧ Q (.int (if i < 0 then -i else i)) H
abbrev rMaxI : List V → Hp → VK → Prop := fun xs H Q => ∃ i j, xs = [.int i, .int j] ∧ Q (.int (if j > i then j else i)) H
abbrev rLenS (K : PySem.W.Frag) : List V → Hp → VK → Prop := fun xs H Q => ∃ p ys, xs = [.ref p] ∧ (SqL K H p ys ∨ SqT K H p ys) ∧ Q (.int ys.length) H
abbrev tK (i : Int) : TE := tC (.int i)
abbrev tS (x : Str) : TE := tC (.str x)
abbrev tMulI (a b : TE) : TE := tOp (rI CMul fun i j => .int (i * j)) a b
abbrev tAddI (a b : TE) : TE := tOp (rI0 fun i j => .int (i + j)) a b
abbrev tModI (a b : TE) : TE := tOp (rI (fun _ j => 0 < j) fun i j => .int (i % j)) a b
abbrev tDivI (a b : TE) : TE := tOp (rI CDiv fun i j => .int (i / j)) a b
abbrev tGtI (a b : TE) : TT := tTest (tOp (rI0 fun i j => .bl (decide (j < i))) a b)
abbrev tLtI (a b : TE) : TT := tTest (tOp (rI0 fun i j => .bl (decide (i < j))) a b)
abbrev tIntC (a : TE) : TE := tCB rInt1 (tCons a tNil)
def tSource (K : PySem.W.Frag) : TS :=
  tSeq (tAsg (tK 11) (gName 1)) (tSeq (tFor (iList K (tVar 0)) (gName 2) (tAsg (tModI (tIntC (tAddI (tAddI (tMulI (tVar 1) (tK 69069)) (tMulI (tVar 2) (tK 31))) (tK 5))) (tK 2147483629)) (gName 1)))
    (tRet (tDisp [(tS "cells", tRevL K (tLc (iList K (tVar 0)) (gName 2) tYes (tCB rAbs1 (tCons (tVar 2) tNil)) [2])), (tS "left", tK 1), (tS "mixed", tVar 1), (tS "turn", tK 0)])))
def skv (b : Addr) (l m t : Int) : List (Key × V) := [(.inr "cells", .ref b), (.inr "left", .int l), (.inr "mixed", .int m), (.inr "turn", .int t)]
def absI (i : Int) : Int := if i < 0 then -i else i
theorem absI_nn (i : Int) : 0 ≤ absI i := by unfold absI; split <;> omega
def spSource (K : PySem.W.Frag) : Sp := fun vs H Q _ => ∃ (a : Addr) (ns : List Int), vs = [.ref a] ∧ SqL K H a (ns.map V.int) ∧ ns.length < sizeLine ∧ ∀ a' b' H', Same H H' → SrcAt H' a' b' → Q (.ref a') H'
theorem same_upd {H : Hp} {p : Addr} {o : HO} (h : H p = none) : Same H (upd H p o) := fun b x e => by
  rw [upd_ne (ne_of_none e h)]
  exact e
theorem mod_rng (x : Int) {m : Int} (h : 0 < m) : 0 ≤ x % m ∧ x % m < m := ⟨Int.emod_nonneg x (by omega), Int.emod_lt_of_pos x h⟩
theorem cmul_r {i j : Int} (h : -(2 ^ 64) < j ∧ j < 2 ^ 64) : CMul i j := .inr h
theorem sem_source {K : PySem.W.Frag} {vs : List V} {H : Hp} {Q : VK} (h : spSource K vs H Q E0) : tSource K { nx := fun _ H' => Q .non H', rt := Q } (L2.start ["script", "mixed", "cell"] vs) H := by
  obtain ⟨a, ns, rfl, hS, hl, q⟩ := h
  show tSource K { nx := fun _ H' => Q .non H', rt := Q } [some (.ref a), none, none] H
  refine ⟨.ref a, rfl, a, rfl, ⟨_, hS⟩, ?_⟩
  refine ⟨fun i m σ H' => H' = H ∧ i ≤ ns.length ∧ m = ns.length - i ∧ ∃ mx y2, σ = [some (.ref a), some (.int mx), y2] ∧ 0 ≤ mx ∧ mx < 2147483648, ⟨ns.length, rfl, Nat.zero_le _, rfl, 11, none, rfl, by decide, by decide⟩, ?_⟩
  rintro i m σ H' ⟨rfl, hi, rfl, mx, y2, rfl, m1, m2⟩
  by_cases lt : i < ns.length
  · refine .inr ⟨⟨_, .int ns[i], hS, by rw [List.getElem?_map, List.getElem?_eq_getElem lt]; rfl⟩, fun σ' H'' => H'' = H' ∧ ∃ mx y2, σ' = [some (.ref a), some (.int mx), y2] ∧ 0 ≤ mx ∧ mx < 2147483648, ?_, ?_⟩
    · rintro σ' H'' ⟨rfl, mx, y2, rfl, n1, n2⟩
      exact ⟨ns.length - (i + 1), by omega, rfl, lt, rfl, mx, y2, rfl, n1, n2⟩
    · rintro x H'' ⟨rfl, hx⟩
      have ex := hx _ hS
      rw [List.getElem?_map, List.getElem?_eq_getElem lt] at ex
      cases ex
      refine ⟨.int mx, rfl, mx, 69069, rfl, rfl, cmul_r (by decide), .int ns[i], rfl, _, 31, rfl, rfl, cmul_r (by decide), _, _, rfl, rfl, _, _, rfl, rfl, .inl ⟨_, rfl, _, _, rfl, rfl, (show (0 : Int) < 2147483629 by decide), ?_⟩⟩
      have g := mod_rng (mx * 69069 + ns[i] * 31 + 5) (m := 2147483629) (by decide)
      exact ⟨rfl, _, some (.int ns[i]), rfl, g.1, by omega⟩
  · refine .inl ⟨⟨_, hS, by rw [List.length_map]; omega⟩, ?_⟩
    intro p hp
    have s1 : Same H' (upd H' p (.dK [])) := same_upd hp
    refine ⟨.ref a, rfl, a, rfl, ⟨_, s1.seq hS⟩, ?_⟩
    intro D hD
    have nDp : p ≠ D := fun e => by subst e; rw [upd_same] at hD; cases hD
    have s2 : Same (upd H' p (.dK [])) (upd (upd H' p (.dK [])) D (.lst [])) := same_upd hD
    refine ⟨fun i m H2 => i ≤ ns.length ∧ m = ns.length - i ∧ Same H' H2 ∧ H2 p = some (.dK []) ∧ H2 D = some (.lst ((ns.take i).map fun c => .int (absI c))), ⟨ns.length, Nat.zero_le _, rfl, s1.trans s2, ?_, by rw [upd_same]; rfl⟩, ?_⟩
    · rw [upd_ne nDp, upd_same]
    · rintro i m H2 ⟨hi, rfl, sm, h1, h2⟩
      have hA : SqL K H2 a (ns.map V.int) := sm.seq hS
      by_cases lt : i < ns.length
      · refine .inr ⟨⟨_, .int ns[i], hA, by rw [List.getElem?_map, List.getElem?_eq_getElem lt]; rfl⟩, fun H3 => Same H' H3 ∧ H3 p = some (.dK []) ∧ H3 D = some (.lst ((ns.take (i + 1)).map fun c => .int (absI c))), ?_, ?_⟩
        · rintro H3 ⟨g1, g2, g3⟩
          exact ⟨ns.length - (i + 1), by omega, lt, rfl, g1, g2, g3⟩
        · rintro x H3 ⟨rfl, hx⟩
          have ex := hx _ hA
          rw [List.getElem?_map, List.getElem?_eq_getElem lt] at ex
          cases ex
          have nDH : H' D = none := by rw [upd_ne (fun e => nDp e.symm)] at hD; exact hD
          refine ⟨rfl, ?_⟩
          show tCB rAbs1 (tCons (tVar 2) tNil) _ _ _
          refine ⟨.int ns[i], rfl, ns[i], rfl, _, h2, by rw [List.length_map, List.length_take]; omega, ?_, ?_, ?_⟩
          · intro b o e
            rw [upd_ne (ne_of_none e nDH)]
            exact sm _ _ e
          · rw [upd_ne nDp]; exact h1
          · rw [upd_same, List.take_add_one, List.getElem?_eq_getElem lt, List.map_append]
            rfl
      · have ei : ns.take i = ns := List.take_of_length_le (by omega)
        rw [ei] at h2
        refine .inl ⟨⟨_, hA, by rw [List.length_map]; omega⟩, D, _, rfl, .inl (.inl h2), ?_⟩
        intro c hc
        have nc : p ≠ c := fun e => by subst e; rw [h1] at hc; cases hc
        have s3 : Same H2 (upd H2 c (.lst ((ns.map fun x => V.int (absI x)).reverse))) := same_upd hc
        refine ⟨.int mx, rfl, ?_⟩
        refine ⟨by rw [upd_ne nc]; exact h1, [(.inr "cells", .ref c), (.inr "left", .int 1), (.inr "mixed", .int mx), (.inr "turn", .int 0)], rfl, (show 4 ≤ 15 by decide), ?_⟩
        have mk : mergeK [] [((.inr "cells" : Key), V.ref c), (.inr "left", .int 1), (.inr "mixed", .int mx), (.inr "turn", .int 0)] = skv c 1 mx 0 := by rfl
        rw [mk]
        refine q p c _ ?_ ⟨nc, (ns.map absI).reverse, 1, mx, 0, upd_same, ?_, ?_, by decide, m1, m2, by decide⟩
        · intro b o e
          have nb : b ≠ p := ne_of_none e hp
          rw [upd_ne nb]
          exact s3 _ _ (sm _ _ e)
        · rw [upd_ne nc.symm, upd_same, List.map_reverse, List.map_map]
          rfl
        · intro x hx
          rw [List.mem_reverse, List.mem_map] at hx
          obtain ⟨y, _, rfl⟩ := hx
          exact absI_nn y

/-! ### a pick -/
def tPick (K : PySem.W.Frag) : TS :=
  tSeq (tWhile (tAnd (tGtI (tVar 1) (tK 1)) (tAnd (tLtI (tDGet (tVar 0) (tS "left")) (tK 2)) (tGtI (tCB (rLenS K) (tCons (tDGet (tVar 0) (tS "cells")) tNil)) (tK 0)))) (sDPut (tVar 0) (tS "left") (tBM0 K "list" rPop (tDGet (tVar 0) (tS "cells")))))
  (tSeq (tAsg (tDGet (tVar 0) (tS "left")) (gName 2))
  (tSeq (tIfS (tOr (tLtI (tVar 1) (tK 2)) (tGtI (tVar 2) (tK 1)))
    (tSeq (sDPut (tVar 0) (tS "left") (tDivI (tVar 2) (tCB rMaxI (tCons (tK 1) (tCons (tVar 1) tNil))))) (tRet (tModI (tIntC (tVar 2)) (tCB rMaxI (tCons (tK 1) (tCons (tVar 1) tNil)))))) tNext)
  (tSeq (sDPut (tVar 0) (tS "turn") (tAddI (tDGet (tVar 0) (tS "turn")) (tK 1)))
  (tSeq (tAsg (tModI (tIntC (tAddI (tDGet (tVar 0) (tS "mixed")) (tMulI (tDGet (tVar 0) (tS "turn")) (tK 104729)))) (tK 998244353)) (gName 3))
  (tSeq (tAsg (tModI (tIntC (tAddI (tMulI (tVar 3) (tVar 3)) (tMulI (tDGet (tVar 0) (tS "turn")) (tK 17)))) (tK 2147483647)) (gName 3))
  (tSeq (sDPut (tVar 0) (tS "mixed") (tVar 3))
  (tRet (tModI (tIntC (tDivI (tVar 3) (tK 16))) (tVar 1)))))))))
structure S4 (H : Hp) (a b : Addr) (cs : List Int) (l m t : Int) : Prop where
  ne : a ≠ b
  ha : H a = some (.dK (skv b l m t))
  hb : H b = some (.lst (cs.map V.int))
  cs : ∀ c ∈ cs, 0 ≤ c
  l0 : 0 ≤ l
  m0 : 0 ≤ m
  m1 : m < 2147483648
  t0 : 0 ≤ t
/-- the heap but for the source -/
def Off (a b : Addr) (H H' : Hp) : Prop := ∀ c, c ≠ a → c ≠ b → H' c = H c
theorem Off.refl {a b : Addr} {H : Hp} : Off a b H H := fun _ _ _ => rfl
theorem Off.put {a b : Addr} {H H' : Hp} {o : HO} (h : Off a b H H') : Off a b H (upd H' a o) := fun c h1 h2 => by rw [upd_ne h1]; exact h c h1 h2
theorem Off.putB {a b : Addr} {H H' : Hp} {o : HO} (h : Off a b H H') : Off a b H (upd H' b o) := fun c h1 h2 => by rw [upd_ne h2]; exact h c h1 h2
theorem off_ext {a b : Addr} {F H H' : Hp} (bs : Base (some (a, b)) F H) (o : Off a b H H') (s : SrcAt H' a b) : Ext2 (some (a, b)) F H F H' where
  sF := Same.refl F
  sH := fun c u e n => by rw [o c (fun z => n (.inl z)) (fun z => n (.inr z))]; exact e
  le := fun c u e => by
    have n1 : c ≠ a := fun z => by subst z; rw [bs.no c (.inl rfl)] at e; cases e
    have n2 : c ≠ b := fun z => by subst z; rw [bs.no c (.inr rfl)] at e; cases e
    rw [o c n1 n2]; exact bs.le _ _ e
  fr := fun _ _ e => .inl e
  ok := s
section
variable {H : Hp} {a b : Addr} {cs : List Int} {l m t : Int}
theorem S4.src (h : S4 H a b cs l m t) : SrcAt H a b := ⟨h.ne, cs, l, m, t, h.ha, h.hb, h.cs, h.l0, h.m0, h.m1, h.t0⟩
theorem S4.cells (h : S4 H a b cs l m t) : DGet H a (.str "cells") (some (.ref b)) := DGet.k (k := .inr "cells") h.ha
theorem S4.left (h : S4 H a b cs l m t) : DGet H a (.str "left") (some (.int l)) := DGet.k (k := .inr "left") h.ha
theorem S4.mixed (h : S4 H a b cs l m t) : DGet H a (.str "mixed") (some (.int m)) := DGet.k (k := .inr "mixed") h.ha
theorem S4.turn (h : S4 H a b cs l m t) : DGet H a (.str "turn") (some (.int t)) := DGet.k (k := .inr "turn") h.ha
theorem S4.putL (h : S4 H a b cs l m t) {x : Int} (hx : 0 ≤ x) : DPut H a (.str "left") (.int x) (upd H a (.dK (skv b x m t))) ∧ S4 (upd H a (.dK (skv b x m t))) a b cs x m t :=
  ⟨DPut.k (k := .inr "left") h.ha (show 4 < sizeLine by decide), ⟨h.ne, upd_same, by rw [upd_ne h.ne.symm]; exact h.hb, h.cs, hx, h.m0, h.m1, h.t0⟩⟩
theorem S4.putM (h : S4 H a b cs l m t) {x : Int} (hx : 0 ≤ x) (hx1 : x < 2147483648) : DPut H a (.str "mixed") (.int x) (upd H a (.dK (skv b l x t))) ∧ S4 (upd H a (.dK (skv b l x t))) a b cs l x t :=
  ⟨DPut.k (k := .inr "mixed") h.ha (show 4 < sizeLine by decide), ⟨h.ne, upd_same, by rw [upd_ne h.ne.symm]; exact h.hb, h.cs, h.l0, hx, hx1, h.t0⟩⟩
theorem S4.putT (h : S4 H a b cs l m t) {x : Int} (hx : 0 ≤ x) : DPut H a (.str "turn") (.int x) (upd H a (.dK (skv b l m x))) ∧ S4 (upd H a (.dK (skv b l m x))) a b cs l m x :=
  ⟨DPut.k (k := .inr "turn") h.ha (show 4 < sizeLine by decide), ⟨h.ne, upd_same, by rw [upd_ne h.ne.symm]; exact h.hb, h.cs, h.l0, h.m0, h.m1, hx⟩⟩
end
def wfPick : WF := fun ds Q => match ds with
  | [.int m] => m < 1073741824 ∧ ∀ r, 0 ≤ r → r < max 1 m → Q (.int r)
  | _ => False
theorem max_if (m : Int) : (if m > 1 then m else 1) = max 1 m := by
  by_cases h : m > 1
  · rw [if_pos h]; omega
  · rw [if_neg h]; omega
set_option maxHeartbeats 1000000 in
theorem sem_pick {K : PySem.W.Frag} {vs : List V} {H : Hp} {Q : VK} (h : spS K 1 wfPick vs H Q E0) : tPick K { nx := fun _ H' => Q .non H', rt := Q } (L2.start ["source", "many", "left", "mixed"] vs) H := by
  obtain ⟨a, b, vs', F, ds, P, rfl, bs, hd, hl, hw, k⟩ := h
  obtain ⟨d, rfl⟩ : ∃ d, ds = [d] := by
    match ds, hl with
    | [d], _ => exact ⟨d, rfl⟩
  cases hd with
  | cons hd0 hn =>
  cases hn
  cases d <;> first | exact hw.elim | skip
  rename_i m
  cases hd0
  obtain ⟨hm, hw⟩ := hw
  show tPick K { nx := fun _ H' => Q .non H', rt := Q } [some (.ref a), some (.int m), none, none] H
  -- the answer
  have fin : ∀ (r : Int) (H' : Hp), 0 ≤ r → r < max 1 m → Off a b H H' → SrcAt H' a b → Q (.int r) H' := fun r H' h1 h2 ho hs => k (.int r) (.int r) F H' (hw r h1 h2) (off_ext bs ho hs) (.int r)
  obtain ⟨ne, cs0, l0, m0, t0, sa, sb, c0, lz, mz, ms, tz⟩ := bs.ok
  have st0 : S4 H a b cs0 l0 m0 t0 := ⟨ne, sa, sb, c0, lz, mz, ms, tz⟩
  refine ⟨fun n σ H' => σ = [some (.ref a), some (.int m), none, none] ∧ Off a b H H' ∧ ∃ cs l, cs.length = n ∧ S4 H' a b cs l m0 t0, ⟨cs0.length, rfl, Off.refl, cs0, l0, rfl, st0⟩, ?_⟩
  rintro n σ H1 ⟨rfl, of, cs, l, hn, st⟩
  -- what comes behind the loop
  have behind : tSeq (tAsg (tDGet (tVar 0) (tS "left")) (gName 2))
      (tSeq (tIfS (tOr (tLtI (tVar 1) (tK 2)) (tGtI (tVar 2) (tK 1)))
        (tSeq (sDPut (tVar 0) (tS "left") (tDivI (tVar 2) (tCB rMaxI (tCons (tK 1) (tCons (tVar 1) tNil))))) (tRet (tModI (tIntC (tVar 2)) (tCB rMaxI (tCons (tK 1) (tCons (tVar 1) tNil)))))) tNext)
      (tSeq (sDPut (tVar 0) (tS "turn") (tAddI (tDGet (tVar 0) (tS "turn")) (tK 1)))
      (tSeq (tAsg (tModI (tIntC (tAddI (tDGet (tVar 0) (tS "mixed")) (tMulI (tDGet (tVar 0) (tS "turn")) (tK 104729)))) (tK 998244353)) (gName 3))
      (tSeq (tAsg (tModI (tIntC (tAddI (tMulI (tVar 3) (tVar 3)) (tMulI (tDGet (tVar 0) (tS "turn")) (tK 17)))) (tK 2147483647)) (gName 3))
      (tSeq (sDPut (tVar 0) (tS "mixed") (tVar 3))
      (tRet (tModI (tIntC (tDivI (tVar 3) (tK 16))) (tVar 1)))))))) { nx := fun _ H' => Q .non H', rt := Q } [some (.ref a), some (.int m), none, none] H1 := by
    refine ⟨.ref a, rfl, a, _, rfl, st.left, ?_⟩
    have rest : ∀ H2, Off a b H H2 → S4 H2 a b cs l m0 t0 → 2 ≤ m → (tSeq (sDPut (tVar 0) (tS "turn") (tAddI (tDGet (tVar 0) (tS "turn")) (tK 1)))
      (tSeq (tAsg (tModI (tIntC (tAddI (tDGet (tVar 0) (tS "mixed")) (tMulI (tDGet (tVar 0) (tS "turn")) (tK 104729)))) (tK 998244353)) (gName 3))
      (tSeq (tAsg (tModI (tIntC (tAddI (tMulI (tVar 3) (tVar 3)) (tMulI (tDGet (tVar 0) (tS "turn")) (tK 17)))) (tK 2147483647)) (gName 3))
      (tSeq (sDPut (tVar 0) (tS "mixed") (tVar 3))
      (tRet (tModI (tIntC (tDivI (tVar 3) (tK 16))) (tVar 1))))))) { nx := fun _ H' => Q .non H', rt := Q } [some (.ref a), some (.int m), some (.int l), none] H2 := by
      intro H2 of2 st2 m2
      obtain ⟨p1, st3⟩ := st2.putT (x := t0 + 1) (by omega)
      refine ⟨.ref a, rfl, a, _, rfl, st2.turn, t0, 1, rfl, rfl, .ref a, rfl, a, _, rfl, p1, ?_⟩
      refine ⟨.ref a, rfl, a, _, rfl, st3.mixed, .ref a, rfl, a, _, rfl, st3.turn, _, _, rfl, rfl, cmul_r (by decide), _, _, rfl, rfl, .inl ⟨_, rfl, _, _, rfl, rfl, (show (0 : Int) < 998244353 by decide), ?_⟩⟩
      have g1 := mod_rng (m0 + (t0 + 1) * 104729) (m := 998244353) (by decide)
      dsimp only
      generalize (m0 + (t0 + 1) * 104729) % 998244353 = x1 at g1 ⊢
      refine ⟨.int x1, rfl, .int x1, rfl, _, _, rfl, rfl, .inl ⟨by omega, by omega⟩, .ref a, rfl, a, _, rfl, st3.turn, _, _, rfl, rfl, cmul_r (by decide), _, _, rfl, rfl, .inl ⟨_, rfl, _, _, rfl, rfl, (show (0 : Int) < 2147483647 by decide), ?_⟩⟩
      have g2 := mod_rng (x1 * x1 + (t0 + 1) * 17) (m := 2147483647) (by decide)
      dsimp only
      generalize (x1 * x1 + (t0 + 1) * 17) % 2147483647 = x2 at g2 ⊢
      obtain ⟨p2, st4⟩ := st3.putM (x := x2) g2.1 (by omega)
      refine ⟨.int x2, rfl, .ref a, rfl, a, _, rfl, p2, ?_⟩
      refine ⟨.int x2, rfl, x2, 16, rfl, rfl, ⟨by decide, by decide⟩, .inl ⟨_, rfl, .int m, rfl, _, _, rfl, rfl, (show (0 : Int) < m by omega), ?_⟩⟩
      have g3 := mod_rng (x2 / 16) (m := m) (by omega)
      exact fin _ _ g3.1 (by omega) (Off.put (Off.put of2)) st4.src
    have early : 0 ≤ l → (tSeq (sDPut (tVar 0) (tS "left") (tDivI (tVar 2) (tCB rMaxI (tCons (tK 1) (tCons (tVar 1) tNil))))) (tRet (tModI (tIntC (tVar 2)) (tCB rMaxI (tCons (tK 1) (tCons (tVar 1) tNil))))))
        { nx := fun σ' H' => (tSeq (sDPut (tVar 0) (tS "turn") (tAddI (tDGet (tVar 0) (tS "turn")) (tK 1)))
      (tSeq (tAsg (tModI (tIntC (tAddI (tDGet (tVar 0) (tS "mixed")) (tMulI (tDGet (tVar 0) (tS "turn")) (tK 104729)))) (tK 998244353)) (gName 3))
      (tSeq (tAsg (tModI (tIntC (tAddI (tMulI (tVar 3) (tVar 3)) (tMulI (tDGet (tVar 0) (tS "turn")) (tK 17)))) (tK 2147483647)) (gName 3))
      (tSeq (sDPut (tVar 0) (tS "mixed") (tVar 3))
      (tRet (tModI (tIntC (tDivI (tVar 3) (tK 16))) (tVar 1))))))) { nx := fun _ H' => Q .non H', rt := Q } σ' H', rt := Q } [some (.ref a), some (.int m), some (.int l), none] H1 := by
      intro _
      have mp : (0 : Int) < max 1 m := by omega
      have ml : max 1 m < 1073741824 := by omega
      obtain ⟨p1, st3⟩ := st.putL (x := l / max 1 m) (Int.ediv_nonneg st.l0 (by omega))
      refine ⟨.int l, rfl, .int m, rfl, 1, m, rfl, l, _, rfl, rfl, ?_, .ref a, rfl, a, _, rfl, by rw [max_if]; exact p1, ?_⟩
      · rw [max_if]; exact ⟨mp, ml⟩
      · refine ⟨.int l, rfl, .inl ⟨_, rfl, .int m, rfl, 1, m, rfl, l, _, rfl, rfl, ?_, ?_⟩⟩
        · rw [max_if]; exact mp
        · rw [max_if]
          have g := mod_rng l mp
          exact fin _ _ g.1 g.2 (Off.put of) st3.src
    refine ⟨.int m, rfl, m, 2, rfl, rfl, _, rfl, ?_⟩
    by_cases h2 : m < 2
    · rw [decide_eq_true h2]
      exact early st.l0
    · rw [decide_eq_false h2]
      refine ⟨.int l, rfl, l, 1, rfl, rfl, _, rfl, ?_⟩
      by_cases h3 : 1 < l
      · rw [decide_eq_true h3]
        exact early st.l0
      · rw [decide_eq_false h3]
        exact rest H1 of st (by omega)
  refine ⟨.int m, rfl, m, 1, rfl, rfl, _, rfl, ?_⟩
  by_cases h1 : 1 < m
  · rw [decide_eq_true h1]
    refine ⟨.ref a, rfl, a, _, rfl, st.left, l, 2, rfl, rfl, _, rfl, ?_⟩
    by_cases h2 : l < 2
    · rw [decide_eq_true h2]
      refine ⟨.ref a, rfl, a, _, rfl, st.cells, b, _, rfl, .inl (.inl (.inl st.hb)), _, 0, rfl, rfl, _, rfl, ?_⟩
      by_cases h3 : (0 : Int) < ((cs.map V.int).length : Nat)
      · rw [decide_eq_true h3]
        show (if (true : Bool) = true then _ else _)
        rw [if_pos rfl]
        have pos : 0 < cs.length := by rw [List.length_map] at h3; omega
        have lt : cs.length - 1 < cs.length := by omega
        refine ⟨fun σ' H' => σ' = [some (.ref a), some (.int m), none, none] ∧ Off a b H H' ∧ ∃ cs' l, cs'.length < n ∧ S4 H' a b cs' l m0 t0, ?_, ?_⟩
        · rintro σ' H' ⟨rfl, of', cs', l', c1, c2⟩
          exact ⟨cs'.length, c1, rfl, of', cs', l', rfl, c2⟩
        · refine ⟨.ref a, rfl, a, _, rfl, st.cells, .inl ⟨rfl, _, .inl (.inl st.hb)⟩, b, _, .int cs[cs.length - 1], rfl, rfl, st.hb, by rw [List.length_map, List.getElem?_map, List.getElem?_eq_getElem lt]; rfl, ?_⟩
          have st2 : S4 (upd H1 b (.lst (cs.map V.int).dropLast)) a b cs.dropLast l m0 t0 := ⟨st.ne, by rw [upd_ne st.ne]; exact st.ha, by rw [upd_same, List.map_dropLast], fun c hc => st.cs c (List.dropLast_subset _ hc), st.l0, st.m0, st.m1, st.t0⟩
          obtain ⟨p1, st3⟩ := st2.putL (x := cs[cs.length - 1]) (st.cs _ (List.getElem_mem _))
          refine ⟨.ref a, rfl, a, _, rfl, p1, rfl, (of.putB).put, cs.dropLast, _, ?_, st3⟩
          rw [List.length_dropLast]
          omega
      · rw [decide_eq_false h3]
        show (if (false : Bool) = true then _ else _)
        rw [if_neg Bool.false_ne_true]
        exact behind
    · rw [decide_eq_false h2]
      show (if (false : Bool) = true then _ else _)
      rw [if_neg Bool.false_ne_true]
      exact behind
  · rw [decide_eq_false h1]
    show (if (false : Bool) = true then _ else _)
    rw [if_neg Bool.false_ne_true]
    exact behind
end W2

set_option Elab.async false
set_option linter.all false
set_option maxRecDepth 100000
/-! W2Q: things mixed, one of some; the law's own end. -/
namespace W2
open PySem PySem.Spec PyProof.Rows L2

abbrev rList1 (K : PySem.W.Frag) : List V → Hp → VK → Prop := fun xs H Q => ∃ p ys, xs = [.ref p] ∧ (SqL K H p ys ∨ SqT K H p ys) ∧ ∀ l, H l = none → Q (.ref l) (upd H l (.lst ys))
abbrev tPickLen (K : PySem.W.Frag) (i j : Nat) : TE := tCall (spS K 1 wfPick) [] E0 (tCons (tVar i) (tCons (tCB (rLenS K) (tCons (tVar j) tNil)) tNil))
def tMixRet (K : PySem.W.Frag) : TS := tRet (tLc (iRng1 (tCons (tCB (rLenS K) (tCons (tVar 2) tNil)) tNil)) (gName 3) tYes (tBM K "list" rPopAt (tVar 2) (tCons (tPickLen K 0 2) tNil)) [3])
def tMixed (K : PySem.W.Frag) : TS := tSeq (tAsg (tCB (rList1 K) (tCons (tVar 1) tNil)) (gName 2)) (tMixRet K)
def wMixRet : WS := fun D η => match (η[0]? : Option Slot), (η[2]? : Option Slot) with
  | some .src, some (.ow (.list xs)) => xs.length < 16777216 ∧ ∀ ys, ys.Perm xs → D.rt (.list ys)
  | _, _ => False
theorem Ext2.keepNT {sx : Sx} {F H F' H' : Hp} {c : Addr} {o : HO} (e : Ext2 sx F H F' H') (hn : ¬ inSx sx c) (f : F c = none) (h : H c = some o) (nt : ∀ xs, o ≠ .tup xs) : F' c = none ∧ H' c = some o := by
  have hb := e.sH _ _ h hn
  refine ⟨?_, hb⟩
  cases z : F' c with
  | none => rfl
  | some u =>
    rcases e.fr _ _ z with y | y | ⟨ys, rfl⟩
    · rw [f] at y; cases y
    · rw [h] at y; cases y
    · have q := e.le _ _ z
      rw [hb] at q
      exact absurd (Option.some.inj q) (nt ys)
/-- what is new may change -/
theorem Ext2.putNew {sx : Sx} {F H F' H' : Hp} {c : Addr} {o : HO} (e : Ext2 sx F H F' H') (hn : ¬ inSx sx c) (h : H c = none) (f : F' c = none) : Ext2 sx F H F' (upd H' c o) where
  sF := e.sF
  sH := fun b u z n => by rw [upd_ne (ne_of_none z h)]; exact e.sH _ _ z n
  le := fun b u z => by rw [upd_ne (ne_of_none z f)]; exact e.le _ _ z
  fr := e.fr
  ok := by
    cases sx with
    | none => trivial
    | some p =>
      obtain ⟨a1, b1⟩ := p
      obtain ⟨n, cs, l, m, t, z1, z2, z⟩ := e.ok
      exact ⟨n, cs, l, m, t, by rw [upd_ne (fun z => hn (.inl z.symm))]; exact z1, by rw [upd_ne (fun z => hn (.inr z.symm))]; exact z2, z⟩
def hideAt (H : Hp) (c : Addr) : Hp := fun b => if b = c then none else H b
theorem hide_at {H : Hp} {c : Addr} : hideAt H c c = none := if_pos rfl
theorem hide_ne {H : Hp} {b c : Addr} (h : b ≠ c) : hideAt H c b = H b := if_neg h
theorem DtL.eraseIdx {K : PySem.W.Frag} {F : Hp} {vs : List V} {ds : List D} (h : DtL K F vs ds) (i : Nat) : DtL K F (vs.eraseIdx i) (ds.eraseIdx i) := by
  rw [List.eraseIdx_eq_take_drop_succ, List.eraseIdx_eq_take_drop_succ]
  exact (h.take i).append (h.drop (i + 1))
theorem perm_erase {α : Type} {xs : List α} {i : Nat} {x : α} (h : xs[i]? = some x) : (x :: xs.eraseIdx i).Perm xs := by
  obtain ⟨hi, e⟩ := List.getElem?_eq_some_iff.mp h
  rw [List.eraseIdx_eq_take_drop_succ]
  have q : xs = xs.take i ++ x :: xs.drop (i + 1) := by
    rw [← e, ← List.drop_eq_getElem_cons hi, List.take_append_drop]
  refine List.Perm.trans ?_ (List.Perm.of_eq q.symm)
  exact List.perm_middle.symm
theorem seqIndex_nn {r : Int} {n : Nat} (h0 : 0 ≤ r) (h1 : r < n) : seqIndex? r n = some r.toNat := by
  unfold seqIndex?
  have e : ¬ r < 0 := by omega
  simp [e, h0, h1]
set_option maxHeartbeats 1000000 in
theorem sem_mixRet {K : PySem.W.Frag} : SemS K (tMixRet K) wMixRet := fun {sx H0 F0 F σ H η D R} r hw k => by
  unfold wMixRet at hw
  split at hw
  · rename_i xs hi0 hi2
    obtain ⟨hlen, hw⟩ := hw
    obtain ⟨v0, hv0, a, b, rfl, rfl⟩ := r.val hi0
    obtain ⟨v2, hv2, c, rfl, ho, hFc, h0c, hnc⟩ := r.val hi2
    obtain ⟨vs, hHc, hvs⟩ := ho
    -- c hidden: what is there is what stood there, but for c
    have bc : Base (some (a, b)) F (hideAt H c) := ⟨fun x o e => by rw [hide_ne (ne_of_none e hFc)]; exact r.base.le _ _ e, by
      obtain ⟨n, cs, l, m, t, z1, z2, z⟩ := r.base.ok
      exact ⟨n, cs, l, m, t, by rw [hide_ne (fun z => hnc (.inl z.symm))]; exact z1, by rw [hide_ne (fun z => hnc (.inr z.symm))]; exact z2, z⟩, r.base.no⟩
    have e0 : Ext2 (some (a, b)) F0 H0 F (hideAt H c) := ⟨r.f0, fun x o e n => by rw [hide_ne (ne_of_none e h0c)]; exact r.s0 _ _ e n, bc.le, r.fr, bc.ok⟩
    have eH : Ext2 (some (a, b)) F (hideAt H c) F H := ⟨Same.refl F, fun x o e n => by
      have nx : x ≠ c := fun z => by subst z; rw [hide_at] at e; cases e
      rw [hide_ne nx] at e; exact e, r.base.le, fun _ _ e => .inl e, r.base.ok⟩
    refine ⟨.ref c, hv2, c, vs, rfl, .inl (.inl (.inl hHc)), (vs.length : Nat), rfl, by omega, ?_, ?_⟩
    · rw [hvs.length]; omega
    intro Dd hD
    have nDc : Dd ≠ c := fun e => by subst e; rw [hHc] at hD; cases hD
    have nDx : ¬ inSx (some (a, b)) Dd := fun z => by obtain ⟨o, q⟩ := r.base.ok.there z; rw [hD] at q; cases q
    have hDh : hideAt H c Dd = none := by rw [hide_ne nDc]; exact hD
    have hDF : F Dd = none := by
      cases z : F Dd with
      | none => rfl
      | some u => rw [r.base.le _ _ z] at hD; cases hD
    have e3 : (vs.length : Int).toNat = xs.length := by rw [hvs.length]; omega
    refine ⟨fun i m H' => i ≤ xs.length ∧ m = xs.length - i ∧ ∃ F' rem acc vr va, Ext2 (some (a, b)) F (hideAt H c) F' H' ∧ F' c = none ∧ H' c = some (.lst vr) ∧ DtL K F' vr rem ∧ F' Dd = none ∧ H' Dd = some (.lst va) ∧ DtL K F' va acc ∧
      (acc ++ rem).Perm xs ∧ acc.length = i, ⟨xs.length, Nat.zero_le _, rfl, F, xs, [], vs, [], eH.putNew nDx hDh hDF, hFc, by rw [upd_ne nDc.symm]; exact hHc, hvs, hDF, upd_same, .nil, List.Perm.refl _, rfl⟩, ?_⟩
    rintro i m H' ⟨hi, rfl, F', rem, acc, vr, va, ex, f1, f2, f3, f4, f5, f6, pm, la⟩
    have ltot : acc.length + rem.length = xs.length := by rw [← List.length_append]; exact pm.length_eq
    by_cases lt : i < xs.length
    · refine .inr ⟨(by show i < _; rw [e3]; exact lt), fun H3 => ∃ F' rem acc vr va, Ext2 (some (a, b)) F (hideAt H c) F' H3 ∧ F' c = none ∧ H3 c = some (.lst vr) ∧ DtL K F' vr rem ∧ F' Dd = none ∧ H3 Dd = some (.lst va) ∧ DtL K F' va acc ∧
      (acc ++ rem).Perm xs ∧ acc.length = i + 1, ?_, ?_⟩
      · rintro H3 ⟨F3, rem3, acc3, vr3, va3, g⟩
        exact ⟨xs.length - (i + 1), by omega, lt, rfl, F3, rem3, acc3, vr3, va3, g⟩
      · rintro x H3 ⟨rfl, rfl⟩
        have w0 : (L2.wipe σ [3])[0]? = some (some (.ref a)) := by
          show (σ.set 3 none)[0]? = _
          rw [List.getElem?_set_ne (by decide)]; exact hv0
        have w2 : (L2.wipe σ [3])[2]? = some (some (.ref c)) := by
          show (σ.set 3 none)[2]? = _
          rw [List.getElem?_set_ne (by decide)]; exact hv2
        have y0 : ((L2.wipe σ [3]).set 3 (some (.int (0 + (i : Nat)))))[0]? = some (some (.ref a)) := by rw [List.getElem?_set_ne (by decide)]; exact w0
        have y2 : ((L2.wipe σ [3]).set 3 (some (.int (0 + (i : Nat)))))[2]? = some (some (.ref c)) := by rw [List.getElem?_set_ne (by decide)]; exact w2
        refine ⟨?_, ?_⟩
        · show ((σ.set 3 none).set 3 (some _)).set 3 none = σ.set 3 none
          rw [List.set_set, List.set_set]
        · refine ⟨.ref c, y2, .inl ⟨rfl, _, .inl (.inl f2)⟩, .ref a, y0, .ref c, y2, c, vr, rfl, .inl (.inl (.inl f2)), ?_⟩
          show spS K 1 wfPick _ _ _ E0
          have b3 := ex.base bc
          have lr : vr.length = rem.length := f3.length
          refine ⟨a, b, [.int (vr.length : Nat)], F', [.int (vr.length : Nat)], fun d => ∃ q, d = .int q ∧ 0 ≤ q ∧ q < max 1 (vr.length : Int), rfl, b3, .one (.int _), rfl, ⟨by omega, fun q h1 h2 => ⟨q, rfl, h1, h2⟩⟩, ?_⟩
          rintro d v F4 H4 ⟨q, rfl, q1, q2⟩ e4 hv
          cases hv
          obtain ⟨g1, g2⟩ := e4.keepNT hnc f1 f2 (fun _ z => nomatch z)
          obtain ⟨g4, g5⟩ := e4.keepNT nDx f4 f5 (fun _ z => nomatch z)
          have qlt : q < (vr.length : Int) := by omega
          have kl : q.toNat < vr.length := by omega
          have kl2 : q.toNat < rem.length := by omega
          have f3' := f3.mono e4.sF
          obtain ⟨v', hv', hd'⟩ := f3'.get q.toNat (List.getElem?_eq_getElem kl2)
          refine ⟨c, vr, q, q.toNat, v', rfl, rfl, g2, by omega, by omega, seqIndex_nn q1 qlt, hv', va, by rw [upd_ne nDc]; exact g5, by rw [f6.length, sizeLine_eq]; omega, ?_⟩
          have e5 := ex.trans e4
          refine ⟨F4, rem.eraseIdx q.toNat, acc ++ [rem[q.toNat]], vr.eraseIdx q.toNat, va ++ [v'], (e5.putNew hnc hide_at g1).putNew nDx hDh g4, g1, by rw [upd_ne nDc.symm, upd_same], f3'.eraseIdx _, g4, upd_same, (f6.mono e4.sF).append (.one hd'), ?_, by rw [List.length_append, la]; rfl⟩
          refine List.Perm.trans ?_ pm
          rw [List.append_assoc]
          exact List.Perm.append_left acc (perm_erase (List.getElem?_eq_getElem kl2))
    · have ei : i = xs.length := by omega
      have er : rem = [] := List.eq_nil_of_length_eq_zero (by omega)
      subst er
      rw [List.append_nil] at pm
      refine .inl ⟨(by show _ ≤ i; rw [e3]; omega), ?_⟩
      have e6 := e0.trans ex
      refine k.rt (.list acc) (.ref Dd) (upd F' Dd (.lst va)) H' (hw acc pm) ⟨?_, e6.sH, ?_, ?_, e6.ok⟩ (.lst upd_same (f6.mono ?_))
      · intro x o h
        rw [upd_ne (ne_of_none (e6.sF _ _ h) f4)]
        exact e6.sF _ _ h
      · intro x o h
        by_cases hb : x = Dd
        · subst hb; rw [upd_same] at h; cases h; exact f5
        · rw [upd_ne hb] at h; exact e6.le _ _ h
      · intro x o h
        by_cases hb : x = Dd
        · subst hb; exact .inr (.inl (e0.back hDh))
        · rw [upd_ne hb] at h; exact e6.fr _ _ h
      · intro x o h
        rw [upd_ne (ne_of_none h f4)]
        exact h
  · exact hw.elim
def wfMixed : WF := fun ds Q => match ds with
  | [.list xs] => xs.length < 16777216 ∧ ∀ ys, ys.Perm xs → Q (.list ys)
  | [.tuple xs] => xs.length < 16777216 ∧ ∀ ys, ys.Perm xs → Q (.list ys)
  | _ => False
theorem sem_mixed {K : PySem.W.Frag} {vs : List V} {H : Hp} {Q : VK} (h : spS K 1 wfMixed vs H Q E0) : tMixed K { nx := fun _ H' => Q .non H', rt := Q } (L2.start ["source", "things", "rest", "lap"] vs) H := by
  obtain ⟨a, b, vs', F, ds, P, rfl, bs, hd, hl, hw, k⟩ := h
  have r := rep_startS (N := ["source", "things", "rest", "lap"]) bs hd
  obtain ⟨d, rfl⟩ : ∃ d, ds = [d] := by
    match ds, hl with
    | [d], _ => exact ⟨d, rfl⟩
  obtain ⟨v, rfl, hv⟩ : ∃ v, vs' = [v] ∧ Dt K F v d := by
    cases hd with
    | cons h t => cases t; exact ⟨_, rfl, h⟩
  have go : ∀ (xs : List D) (p : Addr) (ys : List V), v = .ref p → (SqL K H p ys ∨ SqT K H p ys) → DtL K F ys xs → xs.length < 16777216 → (∀ ys, ys.Perm xs → P (.list ys)) → tMixed K { nx := fun _ H' => Q .non H', rt := Q } (L2.start ["source", "things", "rest", "lap"] [.ref a, v]) H := by
    intro xs p ys ev hs hy hl hp
    subst ev
    refine ⟨.ref p, rfl, p, ys, rfl, hs, fun l hl0 => ?_⟩
    have nl : F l = none := by
      cases z : F l with
      | none => rfl
      | some u => rw [bs.le _ _ z] at hl0; cases hl0
    have e1 := Ext2.newF (o := .lst ys) bs hl0
    have r1 := r.setOw e1 2 (a := l) (d := .list xs) ⟨ys, upd_same, hy⟩ nl hl0
    refine sem_mixRet r1 (D := { nx := fun _ => False, rt := P }) ?_ ⟨fun _ _ _ _ q => q.elim, fun _ _ _ _ q => q.elim, fun _ _ _ _ q => q.elim, fun d v F' H' q e h => k d v F' H' q e h⟩
    exact ⟨hl, hp⟩
  cases d <;> first | exact hw.elim | skip
  · rename_i xs
    cases hv with
    | lst h1 h2 => exact go xs _ _ rfl (.inl (SqL.of (bs.le _ _ h1))) h2 hw.1 hw.2
  · rename_i xs
    cases hv with
    | tup h1 h2 => exact go xs _ _ rfl (.inr (SqT.of (bs.le _ _ h1))) h2 hw.1 hw.2
def wfOf : WF := fun ds Q => match ds with
  | [.list xs] => xs ≠ [] ∧ xs.length < 1073741824 ∧ ∀ x ∈ xs, Q x
  | [.tuple xs] => xs ≠ [] ∧ xs.length < 1073741824 ∧ ∀ x ∈ xs, Q x
  | _ => False
/-- the wb of one of some -/
def wbOf : WS := wRet (w2 gIx (wB 1) (wFnS 0 1 wfPick (wCons (wCall gLen (wCons (wB 1) wNil)) wNil)))
end W2

set_option Elab.async false
set_option linter.all false
set_option maxRecDepth 100000
/-! W2M: rows of frozen values and of new objects; a, b = x, y. -/
namespace W2
open PySem PySem.Spec PyProof.Rows L2

section
variable {K : PySem.W.Frag} {sx : Sx} {H0 F0 F H F1 H1 Hb : Hp} {σ : L2.St} {η : En}
/-- an object of its own at a slot -/
theorem Rep.setOwN (r : Rep K sx H0 F0 F σ H η) (i : Nat) {a : Addr} {d : D} (ho : OwnAt K F H a d) (hf : F a = none) (h0 : H0 a = none) (hn : ¬ inSx sx a) (hs : ∀ (j : Nat) (d' : D), η[j]? = some (.ow d') → σ[j]? = some (some (.ref a)) → False) :
    Rep K sx H0 F0 F (σ.set i (some (.ref a))) H (η.set i (.ow d)) where
  base := r.base
  s0 := r.s0
  f0 := r.f0
  fr := r.fr
  len := by rw [List.length_set, List.length_set]; exact r.len
  sl := fun j s x h1 h2 => by
    by_cases e : i = j
    · subst e
      have hi : i < η.length := by have := (List.getElem?_eq_some_iff.mp h1).1; simpa using this
      have hi' : i < σ.length := by rw [← r.len]; exact hi
      rw [List.getElem?_set_self hi] at h1
      rw [List.getElem?_set_self hi'] at h2
      cases h1; cases h2
      exact ⟨a, rfl, ho, hf, h0, hn⟩
    · rw [List.getElem?_set_ne e] at h1 h2
      exact r.sl j s x h1 h2
  sep := fun j k d1 d2 b h1 h2 h3 h4 => by
    have self : ∀ (m : Nat) (d : D), i = m → (η.set i (.ow d))[m]? = some (.ow d) → (σ.set i (some (V.ref a)))[m]? = some (some (.ref b)) → b = a := fun m d e z1 z2 => by
      subst e
      have hi : i < η.length := by have := (List.getElem?_eq_some_iff.mp z1).1; simpa using this
      have hi' : i < σ.length := by rw [← r.len]; exact hi
      rw [List.getElem?_set_self hi'] at z2
      cases z2; rfl
    by_cases e1 : i = j
    · by_cases e2 : i = k
      · exact e1.symm.trans e2
      · exfalso
        have hi : i < η.length := by subst e1; have := (List.getElem?_eq_some_iff.mp h1).1; simpa using this
        have hb : b = a := self j d e1 (by subst e1; rw [List.getElem?_set_self hi]) h3
        subst hb
        rw [List.getElem?_set_ne e2] at h2 h4
        exact hs k d2 h2 h4
    · by_cases e2 : i = k
      · exfalso
        have hi : i < η.length := by subst e2; have := (List.getElem?_eq_some_iff.mp h2).1; simpa using this
        have hb : b = a := self k d e2 (by subst e2; rw [List.getElem?_set_self hi]) h4
        subst hb
        rw [List.getElem?_set_ne e1] at h1 h3
        exact hs j d1 h1 h3
      · rw [List.getElem?_set_ne e1] at h1 h3
        rw [List.getElem?_set_ne e2] at h2 h4
        exact r.sep j k d1 d2 b h1 h2 h3 h4
/-- a value for a slot; an object of its own is new since Hb -/
def MV (K : PySem.W.Frag) (Hb F H : Hp) (v : V) : Slot → Prop
  | .fz d => Dt K F v d
  | .ow d => ∃ a, v = .ref a ∧ OwnAt K F H a d ∧ F a = none ∧ Hb a = none
  | _ => False
inductive MRow (K : PySem.W.Frag) (Hb F H : Hp) : List V → List Slot → Prop
  | nil : MRow K Hb F H [] []
  | cons {v : V} {s : Slot} {vs : List V} {ss : List Slot} : MV K Hb F H v s → (∀ d, s = .ow d → v ∉ vs) → MRow K Hb F H vs ss → MRow K Hb F H (v :: vs) (s :: ss)
theorem own_keep {a : Addr} {d : D} (e : Ext2 sx F H F1 H1) (b : Base sx F H) (ho : OwnAt K F H a d) (hf : F a = none) (hn : ¬ inSx sx a) : OwnAt K F1 H1 a d ∧ F1 a = none := by
  have h1 := ho.mono e.sF fun o z => e.sH a o z hn
  refine ⟨h1, ?_⟩
  cases z : F1 a with
  | none => rfl
  | some u =>
    rcases e.fr _ _ z with y | y | ⟨xs, rfl⟩
    · rw [hf] at y; cases y
    · obtain ⟨o, ho'⟩ := ho.there
      rw [y] at ho'; cases ho'
    · exact absurd (e.le _ _ z) (ho.notup fun o z => e.sH a o z hn)
abbrev WM := En → (List Slot → Prop) → Prop
def ContM (K : PySem.W.Frag) (sx : Sx) (F H : Hp) (Q : List Slot → Prop) (R : List V → Hp → Prop) : Prop := ∀ ss vs F' H', Q ss → Ext2 sx F H F' H' → MRow K H F' H' vs ss → R vs H'
def SemM (K : PySem.W.Frag) (t : TA) (w : WM) : Prop := ∀ {sx : Sx} {H0 F0 F : Hp} {σ : L2.St} {H : Hp} {η : En} {Q : List Slot → Prop} {R : List V → Hp → Prop}, Rep K sx H0 F0 F σ H η → w η Q → ContM K sx F H Q R → t σ H R
theorem MRow.back (e : Ext2 sx F H F1 H1) {F2 H2 : Hp} : ∀ {vs : List V} {ss : List Slot}, MRow K H1 F2 H2 vs ss → MRow K H F2 H2 vs ss
  | _, _, .nil => .nil
  | _, _, .cons (s := s) h d t => .cons (by
    cases s with
    | fz d => exact h
    | ow d => obtain ⟨a, h1, h2, h3, h4⟩ := h; exact ⟨a, h1, h2, h3, e.back h4⟩
    | _ => exact h.elim) d (MRow.back e t)
theorem MRow.fresh {a : Addr} {o : HO} (hH : Hb a = some o) (hF : F a = none) : ∀ {vs : List V} {ss : List Slot}, MRow K Hb F H vs ss → V.ref a ∉ vs
  | _, _, .nil => by simp
  | _, _, .cons (v := v) (s := s) h d t => by
    intro z
    rcases List.mem_cons.mp z with z | z
    · subst z
      cases s with
      | fz d =>
        cases h with
        | lst q _ => rw [hF] at q; cases q
        | tup q _ => rw [hF] at q; cases q
        | dK q _ => rw [hF] at q; cases q
        | dT q _ => rw [hF] at q; cases q
      | ow d => obtain ⟨a', e, _, _, h4⟩ := h; cases e; rw [hH] at h4; cases h4
      | _ => exact h.elim
    · exact MRow.fresh hH hF t z
end
structure DM (X : Cx) (es : List Expr) (t : TA) (w : WM) : Prop where
  pa : PA X es t
  sem : SemM X.K t w
def wMNil : WM := fun _ Q => Q []
def wMFz (we : WE) (w : WM) : WM := fun η Q => we η fun d => w η fun ss => Q (.fz d :: ss)
def wMOw (we : WE) (w : WM) : WM := fun η Q => we η fun d => w η fun ss => Q (.ow d :: ss)
section
variable {X : Cx} {e : Expr} {es : List Expr} {te : TE} {t : TA} {we : WE} {w : WM}
theorem dm_nil : DM X [] tNil wMNil := ⟨pa_nil, fun r hw k => k [] [] _ _ hw (.refl r.base) .nil⟩
theorem dm_fz (h : DE X e te we) (hr : DM X es t w) (hs : starEach (e :: es) X.env = (false, eval e X.env) :: starEach es X.env := by rfl) : DM X (e :: es) (tCons te t) (wMFz we w) :=
  ⟨pa_cons h.pe hr.pa hs, fun r hw k => h.sem r hw fun d v F1 H1 q e hd => hr.sem (r.ext e) q fun ss vs F2 H2 q2 e2 m => k _ _ F2 H2 q2 (e.trans e2) (.cons (hd.mono e2.sF) (fun _ z => nomatch z) (m.back e))⟩
theorem own_row {K : PySem.W.Frag} {sx : Sx} {H0 F0 F H F1 H1 F2 H2 : Hp} {σ : L2.St} {η : En} {a : Addr} {d : D} {vs : List V} {ss : List Slot} (r : Rep K sx H0 F0 F σ H η) (e : Ext2 sx F H F1 H1) (e2 : Ext2 sx F1 H1 F2 H2) (ho : OwnAt K F1 H1 a d) (hf : F1 a = none) (hn : H a = none) (m : MRow K H1 F2 H2 vs ss) :
    MRow K H F2 H2 (.ref a :: vs) (.ow d :: ss) := by
  have nx : ¬ inSx sx a := fun z => by obtain ⟨o, q⟩ := r.base.ok.there z; rw [hn] at q; cases q
  obtain ⟨g1, g2⟩ := own_keep e2 (e.base r.base) ho hf nx
  obtain ⟨o, g3⟩ := ho.there
  exact .cons ⟨a, rfl, g1, g2, hn⟩ (fun _ _ => m.fresh g3 g2) (m.back e)
theorem dm_ow (h : DL X e te we) (hr : DM X es t w) (hs : starEach (e :: es) X.env = (false, eval e X.env) :: starEach es X.env := by rfl) : DM X (e :: es) (tCons te t) (wMOw we w) :=
  ⟨pa_cons h.pe hr.pa hs, fun r hw k => h.sem r hw fun ds xs a F1 H1 q e h1 h2 h3 h4 => hr.sem (r.ext e) q fun ss vs F2 H2 q2 e2 m => k _ _ F2 H2 q2 (e.trans e2) (own_row (d := .list ds) r e e2 ⟨xs, h1, h2⟩ h3 h4 m)⟩
theorem dm_owD (h : DD X e te we) (hr : DM X es t w) (hs : starEach (e :: es) X.env = (false, eval e X.env) :: starEach es X.env := by rfl) : DM X (e :: es) (tCons te t) (wMOw we w) :=
  ⟨pa_cons h.pe hr.pa hs, fun r hw k => h.sem r hw fun ds a F1 H1 q e h1 h2 h3 => hr.sem (r.ext e) q fun ss vs F2 H2 q2 e2 m => k _ _ F2 H2 q2 (e.trans e2) (own_row r e e2 h1 h2 h3 m)⟩
end
/-- slots set in a row -/
def setAll : L2.St → List Nat → List V → L2.St
  | σ, i :: is, v :: vs => setAll (σ.set i (some v)) is vs
  | σ, _, _ => σ
def setAllE : En → List Nat → List Slot → En
  | η, i :: is, s :: ss => setAllE (η.set i s) is ss
  | η, _, _ => η
theorem Rep.setM {K : PySem.W.Frag} {sx : Sx} {H0 F0 F H Hb : Hp} (h0 : ∀ a, Hb a = none → H0 a = none ∧ ¬ inSx sx a) : ∀ {vs : List V} {ss : List Slot} (is : List Nat) {σ : L2.St} {η : En}, MRow K Hb F H vs ss → Rep K sx H0 F0 F σ H η →
    (∀ (i : Nat) (d : D) (b : Addr), η[i]? = some (.ow d) → σ[i]? = some (some (.ref b)) → Hb b ≠ none ∨ V.ref b ∉ vs) → Rep K sx H0 F0 F (setAll σ is vs) H (setAllE η is ss)
  | _, _, [], _, _, .nil, r, _ => r
  | _, _, [], _, _, .cons _ _ _, r, _ => r
  | _, _, _ :: _, _, _, .nil, r, _ => r
  | _, _, i :: is, σ, η, .cons (v := v) (s := s) (vs := vs) (ss := ss) h d t, r, c => by
    have key : Rep K sx H0 F0 F (σ.set i (some v)) H (η.set i s) ∧ ∀ (j : Nat) (d : D) (b : Addr), (η.set i s)[j]? = some (.ow d) → (σ.set i (some v))[j]? = some (some (.ref b)) → Hb b ≠ none ∨ V.ref b ∉ vs := by
      have old : ∀ (j : Nat) (d : D) (b : Addr), i ≠ j → (η.set i s)[j]? = some (.ow d) → (σ.set i (some v))[j]? = some (some (.ref b)) → Hb b ≠ none ∨ V.ref b ∉ vs := fun j d b ne z1 z2 => by
        rw [List.getElem?_set_ne ne] at z1 z2
        rcases c j d b z1 z2 with q | q
        · exact .inl q
        · exact .inr fun z => q (List.mem_cons_of_mem _ z)
      cases s with
      | fz d =>
        refine ⟨r.setFz i h, fun j d' b z1 z2 => ?_⟩
        by_cases e : i = j
        · subst e
          have hi : i < η.length := by have := (List.getElem?_eq_some_iff.mp z1).1; simpa using this
          rw [List.getElem?_set_self hi] at z1; cases z1
        · exact old j d' b e z1 z2
      | ow d' =>
        obtain ⟨a, rfl, ho, hf, hb⟩ := h
        obtain ⟨g0, gx⟩ := h0 a hb
        refine ⟨r.setOwN i ho hf g0 gx fun j d2 z1 z2 => ?_, fun j d2 b z1 z2 => ?_⟩
        · rcases c j d2 a z1 z2 with q | q
          · exact q hb
          · exact q List.mem_cons_self
        · by_cases e : i = j
          · subst e
            have hi : i < η.length := by have := (List.getElem?_eq_some_iff.mp z1).1; simpa using this
            have hi' : i < σ.length := by rw [← r.len]; exact hi
            rw [List.getElem?_set_self hi'] at z2
            cases z2
            exact .inr (d d' rfl)
          · exact old j d2 b e z1 z2
      | _ => exact h.elim
    exact Rep.setM h0 is t key.1 key.2
theorem Rep.setMs {K : PySem.W.Frag} {sx : Sx} {H0 F0 F H F1 H1 : Hp} {σ : L2.St} {η : En} {vs : List V} {ss : List Slot} (r : Rep K sx H0 F0 F σ H η) (e : Ext2 sx F H F1 H1) (m : MRow K H F1 H1 vs ss) (is : List Nat) : Rep K sx H0 F0 F1 (setAll σ is vs) H1 (setAllE η is ss) := by
  refine Rep.setM (Hb := H) (fun a hn => ?_) is m (r.ext e) (fun i d b z1 z2 => ?_)
  · have nx : ¬ inSx sx a := fun z => by obtain ⟨o, q⟩ := r.base.ok.there z; rw [hn] at q; cases q
    refine ⟨?_, nx⟩
    cases q : H0 a with
    | none => rfl
    | some o => rw [r.s0 a o q nx] at hn; cases hn
  · obtain ⟨a, e1, ho, _⟩ := r.sl i _ _ z1 z2
    cases e1
    obtain ⟨o, q⟩ := ho.there
    exact .inl (by rw [q]; simp)
/-- a, b, .. = x, y, .. : plain names -/
def wPar (is : List Nat) (w : WM) : WS := fun D η => w η fun ss => ss.length = is.length ∧ D.nx (setAllE η is ss)
theorem MRow.length {K : PySem.W.Frag} {Hb F H : Hp} : ∀ {vs : List V} {ss : List Slot}, MRow K Hb F H vs ss → vs.length = ss.length
  | _, _, .nil => rfl
  | _, _, .cons _ _ t => congrArg (· + 1) t.length
section
variable {X : Cx} {a b c : Expr} {ta : TA} {w : WM} {x y z : Str} {px py pz pt pos : Pos} {kt k2 : Nat} {pt2 : Pos}
theorem sem_par2 {K : PySem.W.Frag} {i j : Nat} (h : SemM K ta w) : SemS K (tPar i j ta) (wPar [i, j] w) := fun {sx H0 F0 F σ H η D R} r hw k => h r hw fun ss vs F1 H1 q e m => by
  obtain ⟨v1, v2, rfl⟩ : ∃ v1 v2, vs = [v1, v2] := by
    match vs, m.length.trans q.1 with
    | [v1, v2], _ => exact ⟨v1, v2, rfl⟩
  exact ⟨v1, v2, rfl, k.nx _ _ _ _ q.2 e.sF (r.setMs e m [i, j])⟩
theorem sem_par3 {K : PySem.W.Frag} {i j l : Nat} (h : SemM K ta w) : SemS K (tPar3 i j l ta) (wPar [i, j, l] w) := fun {sx H0 F0 F σ H η D R} r hw k => h r hw fun ss vs F1 H1 q e m => by
  obtain ⟨v1, v2, v3, rfl⟩ : ∃ v1 v2 v3, vs = [v1, v2, v3] := by
    match vs, m.length.trans q.1 with
    | [v1, v2, v3], _ => exact ⟨v1, v2, v3, rfl⟩
  exact ⟨v1, v2, v3, rfl, k.nx _ _ _ _ q.2 e.sF (r.setMs e m [i, j, l])⟩
theorem ds_par2 (i j : Nat) (hc : X.calm = true) (hN : X.N.Nodup) (h : DM X [a, b] ta w) (hi : X.N[i]? = some x := by rfl) (hj : X.N[j]? = some y := by rfl) (hij : i ≠ j := by decide)
    (hx : X.env.scope.names.lookup x = some .local := by rfl) (hy : X.env.scope.names.lookup y = some .local := by rfl)
    (hw : swappedStores [.Tuple [.Name x px, .Name y py] kt pt] (.Tuple [a, b] k2 pt2) X.env = pure (some [x, y]) := by rfl)
    (hs : swapsWithSole [.Tuple [.Name x px, .Name y py] kt pt] (.Tuple [a, b] k2 pt2) pos.line X.env = pure false := by rfl) :
    DS X (.Assign [.Tuple [.Name x px, .Name y py] kt pt] (.Tuple [a, b] k2 pt2) pos) (tPar i j ta) (wPar [i, j] w) := ⟨ps_par hc hN hi hj hij hx hy h.pa hw hs, sem_par2 h.sem⟩
theorem ds_par3 (i j l : Nat) (hc : X.calm = true) (hN : X.N.Nodup) (h : DM X [a, b, c] ta w) (hi : X.N[i]? = some x := by rfl) (hj : X.N[j]? = some y := by rfl) (hl : X.N[l]? = some z := by rfl) (hij : i ≠ j := by decide) (hil : i ≠ l := by decide) (hjl : j ≠ l := by decide)
    (hx : X.env.scope.names.lookup x = some .local := by rfl) (hy : X.env.scope.names.lookup y = some .local := by rfl) (hz : X.env.scope.names.lookup z = some .local := by rfl)
    (hw : swappedStores [.Tuple [.Name x px, .Name y py, .Name z pz] kt pt] (.Tuple [a, b, c] k2 pt2) X.env = pure (some [x, y, z]) := by rfl)
    (hs : swapsWithSole [.Tuple [.Name x px, .Name y py, .Name z pz] kt pt] (.Tuple [a, b, c] k2 pt2) pos.line X.env = pure false := by rfl) :
    DS X (.Assign [.Tuple [.Name x px, .Name y py, .Name z pz] kt pt] (.Tuple [a, b, c] k2 pt2) pos) (tPar3 i j l ta) (wPar [i, j, l] w) := ⟨ps_par3 hc hN hi hj hl hij hil hjl hx hy hz h.pa hw hs, sem_par3 h.sem⟩
/-- .. through a tuple that nobody keeps -/
def tgNames : List Nat → TGs
  | [] => gNil
  | i :: is => gCons (gName i) (tgNames is)
theorem tg_names {Q : L2.St → Hp → Prop} : ∀ (is : List Nat) {vs : List V} {σ : L2.St} {H : Hp}, vs.length = is.length → Q (setAll σ is vs) H → tgNames is vs σ H Q
  | [], [], _, _, _, q => ⟨rfl, q⟩
  | i :: is, v :: vs, _, _, hl, q => ⟨v, vs, rfl, tg_names is (by simpa using hl) q⟩
  | [], _ :: _, _, _, hl, _ => by simp at hl
  | _ :: _, [], _, _, hl, _ => by simp at hl
theorem sem_parT {K : PySem.W.Frag} {is : List Nat} (hz : is.length ≤ 1000) (h : SemM K ta w) : SemS K (tAsg (tTup ta) (gTup K is.length (tgNames is))) (wPar is w) := fun {sx H0 F0 F σ H η D R} r hw k => h r hw fun ss vs F1 H1 q e m => by
  have hl : vs.length = is.length := m.length.trans q.1
  refine ⟨by rw [hl, sizeLine_eq]; omega, fun p hp => ⟨p, vs, rfl, .inl (.inl upd_same), hl, tg_names is hl ?_⟩⟩
  have r1 := r.setMs e m is
  exact k.nx _ _ _ _ q.2 e.sF (r1.ext (.newF r1.base hp))
theorem ds_parT {es : List Expr} {tgs : List Expr} {is : List Nat} (hc : X.calm = true) (h : DM X es ta w) (hg : PGs X tgs (tgNames is)) (hz : is.length ≤ 1000 := by decide) (hn : (assignEach tgs X.env).length = is.length := by rfl) (hst : (assignEach tgs X.env).findIdx? (·.1) = none := by rfl)
    (hs : swapsWithSole [.Tuple tgs kt pt] (.Tuple es k2 pt2) pos.line X.env = pure false := by rfl) (hw : swappedStores [.Tuple tgs kt pt] (.Tuple es k2 pt2) X.env = pure none := by rfl)
    (h1 : (assignEach [.Tuple tgs kt pt] X.env).map (·.2) = [assign (.Tuple tgs kt pt) X.env] := by rfl) : DS X (.Assign [.Tuple tgs kt pt] (.Tuple es k2 pt2) pos) (tAsg (tTup ta) (gTup X.K is.length (tgNames is))) (wPar is w) :=
  ⟨ps_asg (pe_tup h.pa) (pg_tup hc hg hn hst) hs hw h1, sem_parT hz h.sem⟩
theorem pgn_nil : PGs X [] (tgNames []) := pgs_nil
theorem pgn_cons (i : Nat) {es : List Expr} {is : List Nat} (hN : X.N.Nodup) (h : PGs X es (tgNames is)) (hi : X.N[i]? = some x := by rfl) (hx : Loc X.env.scope x := by first | exact Or.inl rfl | exact Or.inr rfl)
    (hs : (assignEach (.Name x px :: es) X.env).map (·.2) = assign (.Name x px) X.env :: (assignEach es X.env).map (·.2) := by rfl) (hf : X.fn x = true ∨ X.env.scope.names.lookup x = some .local := by first | exact .inl rfl | exact .inr rfl) : PGs X (.Name x px :: es) (tgNames (i :: is)) := pgs_cons (pg_name hN hi hx hf) h hs
end
end W2

set_option Elab.async false
set_option linter.all false
set_option maxRecDepth 100000
/-! W2R: x[::-1] of a tuple, list(range), dicts made. -/
namespace W2
open PySem PySem.Spec PyProof.Rows L2

/-! ### x[::-1] -/
section
variable {prog : Program} {w : World} {A : Around} {E : Value → Shared → Prop} {s : Shared}
theorem rev_adjust (n : Nat) : Builtin.Slice.sliceAdjust none none (-1) (n : Int) = ((n : Int) - 1, -1) := rfl
theorem rev_places (n : Nat) : Builtin.Slice.slicePlaces ((n : Int) - 1) (-1) (-1) = n := by
  unfold Builtin.Slice.slicePlaces
  rw [if_neg (by decide)]
  by_cases h : (n : Int) - 1 > -1
  · rw [if_pos h, show (-(-1) : Int) = 1 by decide, Int.ediv_one]
    omega
  · rw [if_neg h]; omega
theorem fm_congr {α β : Type} {f g : α → Option β} : ∀ (l : List α), (∀ x ∈ l, f x = g x) → l.filterMap f = l.filterMap g
  | [], _ => rfl
  | x :: r, h => by
    rw [List.filterMap_cons, List.filterMap_cons, h x List.mem_cons_self, fm_congr r fun y hy => h y (List.mem_cons_of_mem _ hy)]
theorem rev_pick (xs : Array Value) : ((List.range xs.size).filterMap fun (k : Nat) => xs[(((xs.size : Int) - 1) + (k : Int) * (-1)).toNat]?).toArray = xs.toList.reverse.toArray := by
  have e : (List.range xs.size).filterMap (fun (k : Nat) => xs[(((xs.size : Int) - 1) + (k : Int) * (-1)).toNat]?) = ((List.range xs.size).map fun k => xs.size - 1 - k).filterMap (xs[·]?) := by
    rw [List.filterMap_map]
    refine fm_congr _ fun k hk => ?_
    have hk' := List.mem_range.mp hk
    show xs[(((xs.size : Int) - 1) + (k : Int) * (-1)).toNat]? = xs[xs.size - 1 - k]?
    have e1 : (((xs.size : Int) - 1) + (k : Int) * (-1)).toNat = xs.size - 1 - k := by omega
    rw [e1]
  rw [e, PySem.W.krv_range, List.filterMap_reverse, PySem.W.krv_all]
theorem sliceApplied_rev {sl : Addr} {t : Tok} {n : Nat} {Q : Int × Int × Nat → Shared → Prop} (hs : s.heap.IsSliceOf sl .none .none (.int (-1) t)) (h : Q ((n : Int) - 1, -1, n) s) : wpAny (model prog w) A (Builtin.Slice.sliceApplied (.ref sl) (pure (n : Int))) Q E s := by
  obtain ⟨os, hos, hcs, hds⟩ := id hs
  unfold Builtin.Slice.sliceApplied Builtin.Slice.sliceFields
  refine wpAny_bind (wpAny_bind (wpAny_field hos hds (x := .none) rfl (wpAny_bind (wpAny_field hos hds (x := .none) rfl (wpAny_bind (wpAny_field hos hds (x := .int (-1) t) rfl (wpAny_pure ?_)))))))
  refine wpAny_bind (slicePart_int ?_)
  show wpAny _ _ (if ((-1 : Int) == 0) = true then _ else _) _ _ s
  rw [if_neg (by decide)]
  refine wpAny_bind (slicePart_none (wpAny_bind (slicePart_none (wpAny_bind (wpAny_pure ?_)))))
  show wpAny _ _ (match Builtin.Slice.sliceAdjust none none (-1) (n : Int) with | (lo, hi) => pure (lo, (-1 : Int), Builtin.Slice.slicePlaces lo hi (-1))) _ _ s
  rw [rev_adjust]
  show wpAny _ _ (pure ((n : Int) - 1, (-1 : Int), Builtin.Slice.slicePlaces ((n : Int) - 1) (-1) (-1))) _ _ s
  rw [rev_places]
  exact wpAny_pure h
theorem getItem_tuple_rev {t sl : Addr} {items : Array Value} {tk : Tok} {Q : Value → Shared → Prop} (ht : IsTup s.heap t items) (hs : s.heap.IsSliceOf sl .none .none (.int (-1) tk))
    (h : Q (.ref s.heap.objs.size) { s with heap := s.heap.push { cls := .type "tuple", data := .seq items.toList.reverse.toArray } }) (hsz : items.size ≤ sizeLine) : wpAny (model prog w) A (getItem (.ref t) (.ref sl)) Q E s := by
  have hz : sizeOk (.seq items.toList.reverse.toArray) := by
    show items.toList.reverse.toArray.size ≤ sizeLine
    rw [List.size_toArray, List.length_reverse, Array.length_toList]
    exact hsz
  obtain ⟨os, hos, hcs, hds⟩ := id hs
  have hTs : s.TypeIs (.ref sl) "slice" := ⟨os, hos, hcs⟩
  unfold getItem
  try with_reducible refine wpAny_holding ?_
  first | refine wpAny_bind (wpAny_pure ?_) | skip
  refine wpAny_bind (wpAny_sequenceKey ht.typeIs (by decide) ?_)
  refine wpAny_bind (wpAny_callSpecial?_slot (name := Str.ofString "__getitem__") ht.typeIs PyProof.Rows.slot_tuple_getitem
    (wpAny_call_entry PyProof.Rows.slot_tuple_getitem ht.typeIs entry_tuple_getitem ?_ (args_tuple_getitem _ _)))
  show wpAny _ _ (Builtin.Tuple.tupleItemsOf (.ref t) >>= _) _ _ s
  refine wpAny_bind (tupleItemsOf_ ht ?_)
  refine wpAny_bind (wpAny_typeOf hTs ?_)
  rw [if_pos (by decide)]
  refine wpAny_bind (sliceApplied_rev hs ?_)
  show wpAny _ _ (if (((items.size : Int) - 1) == 0 && (-1 : Int) == 1 && items.size == items.size) = true then _ else _) _ _ s
  rw [if_neg (by rw [show ((-1 : Int) == 1) = false by decide, Bool.and_false, Bool.false_and]; exact Bool.false_ne_true), rev_pick]
  first
    | exact wpAny_bind (m := Builtin.Tuple.tupleExact _) (wpAny_newObj_type (wpAny_pure ⟨_, rfl, wpAny_pure h⟩) hz)
    | exact wpAny_bind (m := Builtin.Tuple.tupleExact _) (wpAny_newObj_type (wpAny_bind (wpAny_pure (wpAny_pure ⟨_, rfl, wpAny_pure h⟩))) hz)
    | exact wpAny_bind (wpAny_bind (m := Builtin.Tuple.tupleExact _) (wpAny_newObj_type (wpAny_pure (wpAny_pure ⟨_, rfl, wpAny_pure h⟩)) hz))
    | exact wpAny_bind (wpAny_bind (m := Builtin.Tuple.tupleExact _) (wpAny_newObj_type (wpAny_pure ⟨_, rfl, wpAny_pure h⟩) hz))
end
def tRevT (K : PySem.W.Frag) (te : TE) : TE := fun σ H Q => te σ H fun x H1 => ∃ a xs, x = .ref a ∧ SqT K H1 a xs ∧ ∀ p, H1 p = none → Q (.ref p) (upd H1 p (.tup xs.reverse))
def wRevT (we : WE) : WE := fun η Q => we η fun d => match d with
  | .tuple ds => Q (.tuple ds.reverse)
  | _ => False
section
variable {X : Cx} {e : Expr} {te : TE} {we : WE} {k : Nat} {p1 p2 p3 pos : Pos}
theorem pe_revT (he : PE X e te) : PE X (.Subscript e (.Slice none none (some (.UnaryOp .USub (.Constant (.int 1) k p1) p2)) p3) pos) (tRevT X.K te) := by
  refine ⟨fun pins s σ H Q I h => ?_⟩
  refine Subscript_ (thn (he.run pins s σ H _ I h) fun v s1 ⟨x, H1, I1, r1, q1⟩ => ?_)
  obtain ⟨a, xs, ex, hx, q⟩ := q1
  subst ex
  cases r1
  have hst : PO X (some (.UnaryOp .USub (.Constant (.int 1) k p1) p2)) (tPart (tUn (rU fun i => .int (-i)) (tC (.int 1)))) := po_some (pe_un un_neg pe_int)
  refine wpAny_Slice ?_
  refine wpAny_pure (wpAny_pure ?_)
  refine thn (hst.run pins s1 σ H1 (fun o H4 => o = some (-1) ∧ H4 = H1) I1 ⟨1, rfl, -1, rfl, rfl, rfl⟩) fun vs s4 ⟨o, H4, I4, ps, eo, e4⟩ => ?_
  subst eo e4
  obtain ⟨tk, rfl⟩ : ∃ tk, vs = .int (-1) tk := by cases ps; exact ⟨_, rfl⟩
  have I5 : L2.Inv X pins σ H4 { s4 with heap := s4.heap.push { cls := .type "slice", data := .fields #[.none, .none, .int (-1) tk] } } := I4.kept (t' := s4.toks) fun b ob q => Heap.get?_push_of_some _ q
  obtain ⟨its, r, ht, hz⟩ := I5.tuple hx
  have hlen := r.length
  show wpAny (model X.prog X.w) X.A (subscriptTail e (.Slice none none (some (.UnaryOp .USub (.Constant (.int 1) k p1) p2)) p3) (.ref a) (.ref s4.heap.objs.size)) (EP X pins σ Q) X.xe { s4 with heap := s4.heap.push { cls := .type "slice", data := .fields #[.none, .none, .int (-1) tk] } }
  refine tail_any (ops := [.ref a, .ref s4.heap.objs.size]) (Heap.IsTuple.typeIs ht) (PyProof.Rows.slot_tuple_getitem.lookup) ?_ (by with_unfolding_all rfl)
  refine getItem_tuple_rev ht (Heap.IsSliceOf.new _ _ _ _) ?_ (by rw [List.size_toArray]; omega)
  refine ⟨.ref _, _, I5.laid (t' := s4.toks) (o := .tup xs.reverse) (fun b ob q => Heap.get?_push_of_some _ q) (Nat.le_refl _) ?_, rfl, q _ (I5.hok.fresh (Nat.le_refl _))⟩
  exact ⟨by rw [List.length_reverse]; exact hz, _, r.reverse, IsTup.new _ _⟩
theorem de_revT (he : DE X e te we) : DE X (.Subscript e (.Slice none none (some (.UnaryOp .USub (.Constant (.int 1) k p1) p2)) p3) pos) (tRevT X.K te) (wRevT we) :=
  ⟨pe_revT he.pe, fun {sx H0 F0 F σ H η Q R} r hw kk => he.sem r hw fun d v F1 H1 q e hd => by
    cases d <;> first | exact q.elim | skip
    cases hd with
    | tup h1 h2 => exact ⟨_, _, rfl, SqT.of ((r.ext e).base.le _ _ h1), (kk.ext e).tup (r.ext e).base q h2.reverse⟩⟩
end

/-! ### list(range(..)), tuple(range(..)) -/
theorem DtL.rg {K : PySem.W.Frag} {F : Hp} (a b : Int) : DtL K F (rgV a b) (rangeD a (b - a).toNat) := by
  unfold rgV rangeD
  generalize List.range (b - a).toNat = l
  induction l with
  | nil => exact .nil
  | cons x r ih => exact .cons (.int _) ih
def rgOk (a b : Int) : Prop := -1073741824 ≤ a ∧ a ≤ 1073741824 ∧ -1073741824 ≤ b ∧ b ≤ 1073741824 ∧ b - a ≤ 16777216
theorem rgOk.ok {a b : Int} (h : rgOk a b) : RgOk a b := by
  obtain ⟨h1, h2, h3, h4, h5⟩ := h
  exact ⟨by omega, by omega, by omega, by omega, by omega⟩
/-- a range as an argument -/
structure DRg (X : Cx) (e : Expr) (t : L2.St → Hp → (Int → Int → Hp → Prop) → Prop) (w : En → (Int → Int → Prop) → Prop) : Prop where
  run : PRg X e t
  sem : ∀ {sx : Sx} {H0 F0 F : Hp} {σ : L2.St} {H : Hp} {η : En} {Q : Int → Int → Prop} {R : Int → Int → Hp → Prop}, Rep X.K sx H0 F0 F σ H η → w η Q → (∀ a b F' H', Q a b → Ext2 sx F H F' H' → R a b H') → t σ H R
def wR1 (wa : WE) : En → (Int → Int → Prop) → Prop := fun η Q => wa η fun d => match d with
  | .int n => Q 0 n
  | _ => False
def wR2 (wa wb : WE) : En → (Int → Int → Prop) → Prop := fun η Q => wa η fun d => wb η fun e => match d, e with
  | .int m, .int n => Q m n
  | _, _ => False
section
variable {X : Cx} {a b : Expr} {ta tb : TE} {wa wb : WE} {p pos : Pos}
theorem drg_1 (hg : Gl X "range") (hm : X.mg "range" = none) (ha : DO X a ta wa) (na : starEach [a] X.env = (false, eval a X.env) :: starEach [] X.env := by rfl) : DRg X (.Call (.Name "range" p) [a] [] pos) (tRg1 ta) (wR1 wa) :=
  ⟨prg_1 hg hm ha.pe na, fun {sx H0 F0 F σ H η Q R} r hw k => ha.sem r hw fun d v F1 H1 q e o => by
    cases d <;> first | exact q.elim | skip
    cases (o.nw (r.ext e)).int
    exact ⟨_, rfl, k _ _ F1 H1 q e⟩⟩
theorem drg_2 (hg : Gl X "range") (hm : X.mg "range" = none) (ha : DO X a ta wa) (hb : DO X b tb wb) (na : starEach [a, b] X.env = (false, eval a X.env) :: starEach [b] X.env := by rfl)
    (nb : starEach [b] X.env = (false, eval b X.env) :: starEach [] X.env := by rfl) (hp : (backTo pos (starEach [b] X.env)).any (·.1) = false := by rfl) : DRg X (.Call (.Name "range" p) [a, b] [] pos) (tRg2 ta tb) (wR2 wa wb) :=
  ⟨prg_2 hg hm ha.pe hb.pe na nb hp, fun {sx H0 F0 F σ H η Q R} r hw k => ha.sem r hw fun d v F1 H1 q1 e1 o1 => hb.sem (r.ext e1) q1 fun d2 v2 F2 H2 q e2 o2 => by
    cases d <;> cases d2 <;> first | exact q.elim | skip
    have r2 := (r.ext e1).ext e2
    cases ((o1.mono e2.sF).nw r2).int
    cases (o2.nw r2).int
    exact ⟨_, _, rfl, rfl, k _ _ F2 H2 q (e1.trans e2)⟩⟩
end
def wLstRg (w : En → (Int → Int → Prop) → Prop) : WE := fun η Q => w η fun a b => rgOk a b ∧ Q (.list (rangeD a (b - a).toNat))
def wTupRg (w : En → (Int → Int → Prop) → Prop) : WE := fun η Q => w η fun a b => rgOk a b ∧ Q (.tuple (rangeD a (b - a).toNat))
section
variable {X : Cx} {e : Expr} {t : L2.St → Hp → (Int → Int → Hp → Prop) → Prop} {w : En → (Int → Int → Prop) → Prop} {p pos : Pos}
theorem dl_listRg (hc : X.calm = true) (hg : Gl X "list") (hm : X.mg "list" = none) (h : DRg X e t w) (na : starEach [e] X.env = (false, eval e X.env) :: starEach [] X.env := by rfl) : DL X (.Call (.Name "list" p) [e] [] pos) (tLstRg t) (wLstRg w) :=
  ⟨pe_listRg hc hg hm h.run na, fun {sx H0 F0 F σ H η Q R} r hw k => h.sem r hw fun a b F1 H1 q e => ⟨q.1.ok, (k.ext e).new (r.ext e).base q.2 (.rg a b)⟩⟩
theorem de_tupRg (hc : X.calm = true) (hg : Gl X "tuple") (hm : X.mg "tuple" = none) (h : DRg X e t w) (na : starEach [e] X.env = (false, eval e X.env) :: starEach [] X.env := by rfl) : DE X (.Call (.Name "tuple" p) [e] [] pos) (tTupRg t) (wTupRg w) :=
  ⟨pe_tupRg hc hg hm h.run na, fun {sx H0 F0 F σ H η Q R} r hw k => h.sem r hw fun a b F1 H1 q e => ⟨q.1.ok, (k.ext e).tup (r.ext e).base q.2 (.rg a b)⟩⟩
end

/-! ### dicts made -/
theorem ContD.new {K : PySem.W.Frag} {sx : Sx} {F H : Hp} {Q : D → Prop} {R : VK} (k : ContD K sx F H Q R) (b : Base sx F H) {es : List (D × D)} {o : HO} (q : Q (.dict es)) {p : Addr} (hp : H p = none) (ho : OwnAt K F (upd H p o) p (.dict es)) : R (.ref p) (upd H p o) := by
  refine k es p F (upd H p o) q (.newF b hp) ho ?_ hp
  cases z : F p with
  | none => rfl
  | some u => rw [b.le _ _ z] at hp; cases hp
def wDNew : WE := fun _ Q => Q (.dict [])
section
variable {X : Cx} {pos : Pos}
theorem dd_nil : DD X (.Dict [] [] pos) tDNewK wDNew := ⟨pe_dnewK, fun r hw k p hp => k.new r.base hw hp (.inl ⟨[], upd_same, .nil⟩)⟩
end
/-- the pairs of a list: (key, value) with flat keys -/
def pairsK : List D → Option (List (Key × D))
  | [] => some []
  | .tuple [.int i, v] :: r => (pairsK r).map ((.inl i, v) :: ·)
  | .tuple [.str x, v] :: r => (pairsK r).map ((.inr x, v) :: ·)
  | _ => none
def mergeD (kvs : List (Key × D)) : List (D × D) := kvs.foldl (fun acc kv => dPut acc (kD kv.1) kv.2) []
def gDictP : List D → (D → Prop) → Prop
  | [.list ds], Q => ∃ kvs, pairsK ds = some kvs ∧ Q (.dict (mergeD kvs))
  | [.dict es], Q => Q (.dict es)
  | _, _ => False
theorem pairs_dt {K : PySem.W.Frag} {F H : Hp} (le : Same F H) : ∀ {ds : List D} {vs : List V} {kvs : List (Key × D)}, DtL K F vs ds → pairsK ds = some kvs → ∃ (ps : List Addr) (kvv : List (Key × V)), vs = ps.map V.ref ∧ Paired (fun p kv => SqT K H p [kV kv.1, kv.2]) ps kvv ∧ Paired (fun (x : Key × V) (y : Key × D) => x.1 = y.1 ∧ Dt K F x.2 y.2) kvv kvs
  | [], _, _, .nil, e => by
    cases e
    exact ⟨[], [], rfl, .nil, .nil⟩
  | d :: ds, _, kvs, .cons (v := v0) (vs := vs0) h t, e => by
    have go : ∀ (k : Key) (v : D) (r : List (Key × D)), d = .tuple [kD k, v] → pairsK ds = some r → kvs = (k, v) :: r →
        ∃ (ps : List Addr) (kvv : List (Key × V)), v0 :: vs0 = ps.map V.ref ∧ Paired (fun p kv => SqT K H p [kV kv.1, kv.2]) ps kvv ∧ Paired (fun (x : Key × V) (y : Key × D) => x.1 = y.1 ∧ Dt K F x.2 y.2) kvv kvs := fun k v r e1 e2 e3 => by
      obtain ⟨ps, kvv, h1, h2, h3⟩ := pairs_dt le t e2
      subst e1 e3
      cases h with
      | tup h4 h5 =>
        rename_i a xs
        cases h5 with
        | cons a1 a2 =>
          cases a2 with
          | cons a3 a4 =>
            cases a4
            have ek := a1.keyV
            subst ek
            exact ⟨a :: ps, (k, _) :: kvv, by rw [List.map_cons, h1], .cons (SqT.of (le _ _ h4)) h2, .cons ⟨rfl, a3⟩ h3⟩
    unfold pairsK at e
    split at e
    · rename_i heq; cases heq
    · rename_i i v r heq
      cases heq
      cases q : pairsK ds with
      | none => rw [q] at e; cases e
      | some r => rw [q] at e; cases e; exact go (.inl i) v r rfl q rfl
    · rename_i i v r heq
      cases heq
      cases q : pairsK ds with
      | none => rw [q] at e; cases e
      | some r => rw [q] at e; cases e; exact go (.inr i) v r rfl q rfl
    · cases e
theorem merge_dt {K : PySem.W.Frag} {F : Hp} : ∀ {kvv : List (Key × V)} {kvs : List (Key × D)} {acc : List (Key × V)} {es : List (D × D)}, Paired (fun (x : Key × V) (y : Key × D) => x.1 = y.1 ∧ Dt K F x.2 y.2) kvv kvs → DtK K F acc es →
    DtK K F (kvv.foldl (fun acc kv => putK acc kv.1 kv.2) acc) (kvs.foldl (fun acc kv => dPut acc (kD kv.1) kv.2) es)
  | _, _, _, _, .nil, h => h
  | _, _, acc, es, .cons (a := x) (b := y) hx t, h => by
    obtain ⟨e, hv⟩ := hx
    refine merge_dt t (acc := putK acc x.1 x.2) (es := dPut es (kD y.1) y.2) ?_
    rw [← e]
    exact h.put hv
def CSemD (K : PySem.W.Frag) (r : List V → Hp → VK → Prop) (g : List D → (D → Prop) → Prop) : Prop :=
  ∀ {sx : Sx} {F H : Hp} {vs : List V} {ds : List D} {Q : D → Prop} {R : VK}, Base sx F H → Paired (Nw K F H) vs ds → g ds Q → ContD K sx F H Q R → r vs H R
def rDictA (K : PySem.W.Frag) : List V → Hp → VK → Prop := fun xs H Q => (∃ (a : Addr) (ps : List Addr) (kvs : List (Key × V)), xs = [.ref a] ∧ SqL K H a (ps.map V.ref) ∧ Paired (fun p kv => SqT K H p [kV kv.1, kv.2]) ps kvs ∧ ∀ p, H p = none → Q (.ref p) (upd H p (.dK (mergeK [] kvs)))) ∨
  ∃ (a : Addr) (kvs : List (Key × V)), xs = [.ref a] ∧ Rd H a (.dK kvs) ∧ ∀ p, H p = none → Q (.ref p) (upd H p (.dK kvs))
theorem cr_dict {X : Cx} (hc : X.calm = true) : CallR X (.type "dict") (rDictA X.K) := CallR.or (call_dictP hc) call_dictD
def dictFlat (es : List (D × D)) : Bool := es.all fun e => match e.1 with
  | .tuple _ => false
  | _ => true
def gDictA : List D → (D → Prop) → Prop
  | [.list ds], Q => ∃ kvs, pairsK ds = some kvs ∧ Q (.dict (mergeD kvs))
  | [.dict es], Q => dictFlat es = true ∧ es ≠ [] ∧ Q (.dict es)
  | _, _ => False
theorem cs_dict {K : PySem.W.Frag} : CSemD K (rDictA K) gDictA := fun {sx F H vs ds Q R} b h hg k => by
  match ds, hg with
  | [.list ds], hg =>
    obtain ⟨kvs, e, q⟩ := hg
    obtain ⟨v, rfl, hv⟩ := Nws.one h
    obtain ⟨a, xs, rfl, h1, h2⟩ := hv.list b.le
    obtain ⟨ps, kvv, rfl, h3, h4⟩ := pairs_dt b.le h2 e
    exact .inl ⟨a, ps, kvv, rfl, SqL.of h1, h3, fun p hp => k.new b q hp (.inl ⟨_, upd_same, merge_dt h4 .nil⟩)⟩
  | [.dict es], hg =>
    obtain ⟨f, ne, q⟩ := hg
    obtain ⟨v, rfl, hv⟩ := Nws.one h
    obtain ⟨a, rfl, hd⟩ := hv.dict b.le
    rcases hd with ⟨kvs, rd, hd⟩ | ⟨kvs, rd, hd⟩
    · exact .inr ⟨a, kvs, rfl, rd, fun p hp => k.new b q hp (.inl ⟨_, upd_same, hd⟩)⟩
    · cases hd with
      | nil => exact absurd rfl ne
      | cons _ _ => cases f
section
variable {X : Cx} {id T : String} {r : List V → Hp → VK → Prop} {g : List D → (D → Prop) → Prop} {x : Str} {p pos : Pos} {e : Expr} {es : List Expr} {ta : TA} {wa : WA}
theorem sem_cbD {K : PySem.W.Frag} (hs : CSemD K r g) (ha : SemA K ta wa) : SemD K (tCB r ta) (wCall g wa) := fun {sx H0 F0 F σ H η Q R} rp hw k => ha rp hw fun ds vs F1 H1 q e o => hs (rp.ext e).base (o.nws (rp.ext e)) q (k.ext e)
theorem dd_callT (hc : CallR X (.type T) r) (hs : CSemD X.K r g) (hv : bootBuiltins x = some (.type T)) (hg : Gl X x) (hm : X.mg x = none) (ha : DA X (e :: es) ta wa) (hn : x ≠ "__name__" := by decide) (hdb : (x == ("__debug__" : Str)) = false := by decide)
    (he : starEach (e :: es) X.env = (false, eval e X.env) :: starEach es X.env := by rfl) (hpl : (backTo pos (starEach es X.env)).any (·.1) = false := by rfl) : DD X (.Call (.Name x p) (e :: es) [] pos) (tCB r ta) (wCall g wa) :=
  ⟨pe_callTy hc hg hm hv ha.pa hn hdb he hpl, sem_cbD hs ha.sem⟩
end
end W2

set_option Elab.async false
set_option linter.all false
set_option maxRecDepth 100000
/-! W2N: an item of anything; ints' operators by name; room. -/
namespace W2
open PySem PySem.Spec PyProof.Rows L2

section
variable {X : Cx} {a b : Expr} {ta tb : TE} {wa wb : WE} {pos : Pos}
def rIxDct : R2 := fun x y H Q => ∃ a v, x = .ref a ∧ DGetE H a y (some v) ∧ Q v H
theorem ix_dict (hu : X.A.units + 1 < cLine) : IxR X rIxDct := by
  intro value slice pins s σ H x y v u Q I rx ry h hs
  obtain ⟨a, z, rfl, g, q⟩ := h
  obtain rfl : v = Value.ref a := rx
  exact PyProof.Rows.tail_any (dict_typeIsE I g) PySem.F.slot_dict_getitem.lookup (d_getItemE hu I g ry fun w' s3 I3 rw' => ⟨z, H, I3, rw', q⟩) hs
def gIxA : D → D → (D → Prop) → Prop
  | .dict es, k, Q => gIxD (.dict es) k Q
  | d, k, Q => gIx d k Q
theorem de_ixA (hu : X.A.units + 1 < cLine) (hs : PlainIx b) (ha : DO X a ta wa) (hb : DE X b tb wb) : DE X (.Subscript a b pos) (tOp (fun x y H Q => rIx X.K x y H Q ∨ rIxDct x y H Q) ta tb) (w2 gIxA wa wb) :=
  ⟨pe_ix (IxR.or ix_seq (ix_dict hu)) ha.pe hb.pe hs, fun {sx H0 F0 F σ H η Q R} r hw k => ha.sem r hw fun d x F1 H1 q1 e1 o1 => hb.sem (r.ext e1) q1 fun kd y F2 H2 q2 e2 hy => by
    have r2 := (r.ext e1).ext e2
    have nx := (o1.mono e2.sF).nw r2
    have kk := k.ext (e1.trans e2)
    cases d <;> first | exact .inl (rs_ix r2.base nx (.inl hy) q2 kk) | skip
    obtain ⟨g1, g2, z, g3, q⟩ := q2
    obtain ⟨a, ov, rfl, _, g, rel⟩ := Nw.dgetE r2.base nx hy g1 g2
    rw [g3] at rel
    obtain ⟨v, rfl, hv⟩ := rel.some
    exact .inr ⟨a, v, rfl, g, kk.now r2.base q hv⟩⟩
end
/-! ### ints -/
abbrev gSubI := gI fun i j => .int (i - j)
abbrev gMulI := gIC CMulW fun i j => .int (i * j)
abbrev gFdivI := gIC CDiv fun i j => .int (i / j)
abbrev gModI := gIC (fun _ j => 0 < j) fun i j => .int (i % j)
abbrev gPowI := gIC CPow fun i j => .int (i ^ j.toNat)
abbrev gShlI := gIC CPow fun i j => .int (i * 2 ^ j.toNat)
abbrev gLtI := gI fun i j => .bool (decide (i < j))
abbrev gLeI := gI fun i j => .bool (decide (i ≤ j))
abbrev gGtI := gI fun i j => .bool (decide (j < i))
abbrev gGeI := gI fun i j => .bool (decide (j ≤ i))
section
variable {K : PySem.W.Frag}
theorem rs_subI : RSem K (rI0 fun i j => .int (i - j)) gSubI := rs_I fun _ _ _ => .int _
theorem rs_mulI : RSem K (rI CMulW fun i j => .int (i * j)) gMulI := rs_IC fun _ _ _ => .int _
theorem rs_fdivI : RSem K (rI CDiv fun i j => .int (i / j)) gFdivI := rs_IC fun _ _ _ => .int _
theorem rs_modI : RSem K (rI (fun _ j => 0 < j) fun i j => .int (i % j)) gModI := rs_IC fun _ _ _ => .int _
theorem rs_powI : RSem K (rI CPow fun i j => .int (i ^ j.toNat)) gPowI := rs_IC fun _ _ _ => .int _
theorem rs_shlI : RSem K (rI CPow fun i j => .int (i * 2 ^ j.toNat)) gShlI := rs_IC fun _ _ _ => .int _
theorem rs_ltI : RSem K (rI0 fun i j => .bl (decide (i < j))) gLtI := rs_I fun _ _ _ => .bl _
theorem rs_leI : RSem K (rI0 fun i j => .bl (decide (i ≤ j))) gLeI := rs_I fun _ _ _ => .bl _
theorem rs_gtI : RSem K (rI0 fun i j => .bl (decide (j < i))) gGtI := rs_I fun _ _ _ => .bl _
theorem rs_geI : RSem K (rI0 fun i j => .bl (decide (j ≤ i))) gGeI := rs_I fun _ _ _ => .bl _
end
/-! ### methods of a slot's own list -/
section
variable {X : Cx} {e o : Expr} {ta : TA} {wa : WA} {apos cpos pos : Pos}
theorem ds_append (i : Nat) (ha : DB X [e] ta wa) (hn : PE X o (tVar i)) (hbase : attributeBase o "append" X.env (eval o X.env) = eval o X.env := by rfl)
    (hfew : ((backTo cpos (starEach [e] X.env)).all (fun x => !x.1) && (backToKw cpos (keywordEach [] X.env)).all (fun x => x.1.isSome)
      && decide (([e] : List Expr).length + ([] : List Keyword).length + (if ([] : List Keyword).isEmpty then 0 else 1) < 30)) = true := by rfl)
    (hline : (apos.endLine == cpos.line) = true := by rfl) (hs : starEach [e] X.env = (false, eval e X.env) :: starEach [] X.env := by rfl) (hplain : (backTo cpos (starEach [] X.env)).any (·.1) = false := by rfl)
    (hsw : swapsWith (.Call (.Attribute o "append" apos) [e] [] cpos) none pos.line X.env = pure false := by rfl) :
    DS X (.Expr (.Call (.Attribute o "append" apos) [e] [] cpos) pos) (tAsg (tBM X.K "list" rAppend (tVar i) ta) tgDrop) (wMutE i gAppend wa fun _ η Q => Q η) :=
  ds_mut i ms_append ha (pe_bm PySem.F.plainAttrs_list PySem.F.slot_list_append PySem.F.type_list_append mt_append hn ha.pa hbase hfew hline hs hplain) hsw
theorem ds_extend (i : Nat) (ha : DB X [e] ta wa) (hn : PE X o (tVar i)) (hbase : attributeBase o "extend" X.env (eval o X.env) = eval o X.env := by rfl)
    (hfew : ((backTo cpos (starEach [e] X.env)).all (fun x => !x.1) && (backToKw cpos (keywordEach [] X.env)).all (fun x => x.1.isSome)
      && decide (([e] : List Expr).length + ([] : List Keyword).length + (if ([] : List Keyword).isEmpty then 0 else 1) < 30)) = true := by rfl)
    (hline : (apos.endLine == cpos.line) = true := by rfl) (hs : starEach [e] X.env = (false, eval e X.env) :: starEach [] X.env := by rfl) (hplain : (backTo cpos (starEach [] X.env)).any (·.1) = false := by rfl)
    (hsw : swapsWith (.Call (.Attribute o "extend" apos) [e] [] cpos) none pos.line X.env = pure false := by rfl) :
    DS X (.Expr (.Call (.Attribute o "extend" apos) [e] [] cpos) pos) (tAsg (tBM X.K "list" rExtend (tVar i) ta) tgDrop) (wMutE i gExtend wa fun _ η Q => Q η) :=
  ds_mut i ms_extend ha (pe_bm PySem.F.plainAttrs_list PySem.F.slot_list_extend PySem.F.type_list_extend mt_extend hn ha.pa hbase hfew hline hs hplain) hsw
end
theorem dl_lcV {X : Cx} {elt tg iter : Expr} {ifs : List Expr} {scope : Scope} {vs : List Nat} {pos : Pos} {wi : TI} {wI : WI} {g : TG} {wg : WG} {L : List Nat} {tt : TT} {wt : WT} {te : TE} {we : WE} (hc : X.calm = true) (hN : X.N.Nodup) (hi : DI X tg iter wi wI) (own : List (Str × Nat)) (ok : BlkOk X.N X.env.scope scope own)
    (hg : ∀ (s : Shared) (H : Hp) (C : Addr) (cl : List (Str × Addr)) (fp : List Addr), DG (compX X scope s H C cl fp) tg g wg L) (ht : ∀ (s : Shared) (H : Hp) (C : Addr) (cl : List (Str × Addr)) (fp : List Addr), DTT (compX X scope s H C cl fp) ifs tt wt)
    (he : ∀ (s : Shared) (H : Hp) (C : Addr) (cl : List (Str × Addr)) (fp : List Addr), DE (compX X scope s H C cl fp) elt te we) (hL : ∀ i ∈ L, i ∈ own.map (·.2)) (hv : own.map (·.2) = vs := by rfl) (hs : ∀ x, foldedSetIterable iter X.env x = pure x := by intro _; rfl) :
    DL X (.ListComp elt [⟨tg, iter, ifs, 0⟩] scope pos) (tLc wi g tt te vs) (wLc wI wg wt we vs) := by
  subst hv
  exact dl_lc hc hN hi ok hg ht he hL hs
/-- name = [.. for ..] on one line, the list frozen at once -/
theorem ds_lcF (i : Nat) {X : Cx} {y : Str} {py : Pos} {elt tg iter : Expr} {ifs : List Expr} {scope : Scope} {vs : List Nat} {pos spos : Pos} {wi : TI} {wI : WI} {g : TG} {wg : WG} {L : List Nat} {tt : TT} {wt : WT} {te : TE} {we : WE} (hc : X.calm = true) (hN : X.N.Nodup) (hi : DI X tg iter wi wI) (own : List (Str × Nat)) (ok : BlkOk X.N X.env.scope scope own)
    (hg : ∀ (s : Shared) (H : Hp) (C : Addr) (cl : List (Str × Addr)) (fp : List Addr), DG (compX X scope s H C cl fp) tg g wg L) (ht : ∀ (s : Shared) (H : Hp) (C : Addr) (cl : List (Str × Addr)) (fp : List Addr), DTT (compX X scope s H C cl fp) ifs tt wt)
    (he : ∀ (s : Shared) (H : Hp) (C : Addr) (cl : List (Str × Addr)) (fp : List Addr), DE (compX X scope s H C cl fp) elt te we) (hL : ∀ i ∈ L, i ∈ own.map (·.2)) (hv : own.map (·.2) = vs := by rfl) (hy : X.N[i]? = some y := by rfl) (hyl : X.env.scope.names.lookup y = some .local := by rfl)
    (hsw : swapsWith (.ListComp elt [⟨tg, iter, ifs, 0⟩] scope pos) (some (.Name y py)) spos.line X.env = pure true := by rfl) (hs : ∀ x, foldedSetIterable iter X.env x = pure x := by intro _; rfl) :
    DS X (.Assign [.Name y py] (.ListComp elt [⟨tg, iter, ifs, 0⟩] scope pos) spos) (tAsg (tLc wi g tt te vs) (gName i)) (wAsg (wLc wI wg wt we vs) (wGn i)) := by
  subst hv
  exact ⟨ps_setLc hc hN hy hyl hsw hi.pi ok (fun s H C cl fp => (hg s H C cl fp).pg) (fun s H C cl fp => (ht s H C cl fp).pts) (fun s H C cl fp => (he s H C cl fp).pe) hs,
    sem_asg (SemL.fr (sem_lc hi.sem (hg {} (fun _ => none) 0 [] []).sem (ht {} (fun _ => none) 0 [] []).sem (he {} (fun _ => none) 0 [] []).sem hL)) sem_gname⟩
/-- .. and its own -/
theorem ds_lcL (i : Nat) {X : Cx} {y : Str} {py : Pos} {elt tg iter : Expr} {ifs : List Expr} {scope : Scope} {vs : List Nat} {pos spos : Pos} {wi : TI} {wI : WI} {g : TG} {wg : WG} {L : List Nat} {tt : TT} {wt : WT} {te : TE} {we : WE} (hc : X.calm = true) (hN : X.N.Nodup) (hi : DI X tg iter wi wI) (own : List (Str × Nat)) (ok : BlkOk X.N X.env.scope scope own)
    (hg : ∀ (s : Shared) (H : Hp) (C : Addr) (cl : List (Str × Addr)) (fp : List Addr), DG (compX X scope s H C cl fp) tg g wg L) (ht : ∀ (s : Shared) (H : Hp) (C : Addr) (cl : List (Str × Addr)) (fp : List Addr), DTT (compX X scope s H C cl fp) ifs tt wt)
    (he : ∀ (s : Shared) (H : Hp) (C : Addr) (cl : List (Str × Addr)) (fp : List Addr), DE (compX X scope s H C cl fp) elt te we) (hL : ∀ i ∈ L, i ∈ own.map (·.2)) (hv : own.map (·.2) = vs := by rfl) (hy : X.N[i]? = some y := by rfl) (hyl : X.env.scope.names.lookup y = some .local := by rfl)
    (hsw : swapsWith (.ListComp elt [⟨tg, iter, ifs, 0⟩] scope pos) (some (.Name y py)) spos.line X.env = pure true := by rfl) (hs : ∀ x, foldedSetIterable iter X.env x = pure x := by intro _; rfl) :
    DS X (.Assign [.Name y py] (.ListComp elt [⟨tg, iter, ifs, 0⟩] scope pos) spos) (tAsg (tLc wi g tt te vs) (gName i)) (wAsgL (wLc wI wg wt we vs) i) := by
  subst hv
  exact ⟨ps_setLc hc hN hy hyl hsw hi.pi ok (fun s H C cl fp => (hg s H C cl fp).pg) (fun s H C cl fp => (ht s H C cl fp).pts) (fun s H C cl fp => (he s H C cl fp).pe) hs,
    sem_asgL (sem_lc hi.sem (hg {} (fun _ => none) 0 [] []).sem (ht {} (fun _ => none) 0 [] []).sem (he {} (fun _ => none) 0 [] []).sem hL)⟩
theorem bt_sorted : bootBuiltins "sorted" = some (.builtin "sorted") := by decide +kernel
theorem bt_repr : bootBuiltins "repr" = some (.builtin "repr") := by decide +kernel
theorem bt_abs : bootBuiltins "abs" = some (.builtin "abs") := by decide +kernel
theorem bt_max : bootBuiltins "max" = some (.builtin "max") := by decide +kernel
theorem bt_min : bootBuiltins "min" = some (.builtin "min") := by decide +kernel
theorem bt_sum : bootBuiltins "sum" = some (.builtin "sum") := by decide +kernel
theorem bt_all : bootBuiltins "all" = some (.builtin "all") := by decide +kernel
theorem bt_any : bootBuiltins "any" = some (.builtin "any") := by decide +kernel
/-! ### room -/
section
variable {A : Around} {k : Nat}
theorem un1 (h : Room k A) : A.units + 1 < cLine := by have := h.un; omega
theorem un64 (h : Room k A) : A.units + 64 < cLine := by have := h.un; omega
theorem un65 (h : Room k A) : A.units + 65 < cLine := by have := h.un; omega
theorem un70 (h : Room k A) : A.units + 70 < cLine := by have := h.un; omega
end
end W2

set_option Elab.async false
set_option linter.all false
set_option maxRecDepth 100000
/-! W2L: from the law's promise to the statement. -/
namespace W2
open PySem PySem.Spec PyProof.Rows L2

/-- what a law promises: True, whatever the script -/
def spLawG (K : PySem.W.Frag) : Sp := fun vs H Q _ => ∃ (a : Addr) (ns : List Int), vs = [.ref a] ∧ SqL K H a (ns.map V.int) ∧ ns.length ≤ 63 ∧ ∀ H', Q (.bl true) H'
def lawE (N : List Str) : En := (List.replicate N.length Slot.un).set 1 .src
theorem rep_law {K : PySem.W.Frag} {H : Hp} {N : List Str} {a b c : Addr} (hN : 2 ≤ N.length) (h : SrcAt H a b) : Rep K (some (a, b)) H (fun _ => none) (fun _ => none) ((L2.start N [.ref c]).set 1 (some (.ref a))) H (lawE N) where
  base := ⟨fun _ _ q => (nomatch q), h, fun _ _ => rfl⟩
  s0 := fun _ _ q _ => q
  f0 := Same.refl _
  fr := fun _ _ q => nomatch q
  len := by
    unfold lawE L2.start
    simp only [List.length_set, List.length_replicate, List.length_append, List.length_map, List.length_singleton]
    omega
  sl := fun i s v h1 h2 => by
    unfold lawE at h1
    by_cases e : i = 1
    · subst e
      rw [List.getElem?_set_self (by rw [List.length_replicate]; omega)] at h1
      cases h1
      rw [List.getElem?_set_self (by unfold L2.start; simp only [List.length_append, List.length_map, List.length_singleton, List.length_replicate]; omega)] at h2
      cases h2
      exact ⟨a, b, rfl, rfl⟩
    · rw [List.getElem?_set_ne (Ne.symm e), List.getElem?_replicate] at h1
      split at h1
      · cases h1; trivial
      · cases h1
  sep := fun i j d e a h1 _ _ _ => by
    exfalso
    unfold lawE at h1
    by_cases e : i = 1
    · subst e
      by_cases hl : 1 < N.length
      · rw [List.getElem?_set_self (by rw [List.length_replicate]; omega)] at h1
        cases h1
      · omega
    · rw [List.getElem?_set_ne (Ne.symm e), List.getElem?_replicate] at h1
      split at h1
      · cases h1
      · cases h1
/-- THE LAW'S DEF keeps its promise -/
theorem fn_law {P : Program} {w : World} {K : PySem.W.Frag} {mg : Str → Option Value} {base : Heap} {k : Nat} {f : Addr} {x qual : Str} {st : Stmt} {fd : FuncData} {N : List Str} {p0 : Str} {wb : WS} (F : Fun K x qual st f fd) (S : FnScope N [p0] (defScope st)) (hN : 2 ≤ N.length)
    (hbody : ∀ (cdv : Value) (A : Around) (outer : List Env) (s : Shared) (H : Hp), Room k (A.deeper (envOfC qual (defScope st) s.heap.objs.size f cdv)) → (A.deeper (envOfC qual (defScope st) s.heap.objs.size f cdv)).guards = some [] →
      ∃ st0 rest t, defBody st = st0 :: rest ∧ PS (cxOf CX0 P w K mg base N qual (defScope st) f cdv A outer s H E0).nox st0 (tAsg (tCall (spSource K) [] E0 (tCons (tVar 0) tNil)) (gName 1)) ∧ DSs (cxOf CX0 P w K mg base N qual (defScope st) f cdv A outer s H E0).nox rest t wb)
    (hw : wb { nx := fun _ => False, rt := fun d => d = .bool true } (lawE N)) : FnG P w K mg base (k + 1) f fd [p0] (spLawG K) := by
  refine fnG_of F S (fun vs H Q E h => ?_) fun cdv A outer s H vs Q hr hG h => ?_
  · obtain ⟨a, ns, rfl, _⟩ := h
    rfl
  · obtain ⟨a, ns, rfl, hS, hl, q⟩ := h
    obtain ⟨st0, rest, t, eb, h0, ht⟩ := hbody cdv A outer s H hr hG
    have hs : SemS K t wb := ht.sem
    refine ⟨_, by rw [eb]; exact pss_cons h0 ht.pss, ?_⟩
    have hl1 : 1 ≤ N.length := by omega
    refine ⟨.ref a, ?_, a, ns, rfl, hS, Nat.lt_of_le_of_lt hl (by decide), fun a' b' H' sm sr => ?_⟩
    · unfold L2.start
      rfl
    · refine hs (rep_law (c := a) hN sr) hw ⟨fun _ _ _ _ z => z.elim, fun _ _ _ _ z => z.elim, fun _ _ _ _ z => z.elim, fun d v F' H'' z e hd => ?_⟩
      cases z
      cases hd
      exact q H''

def onlyH (a : Addr) (o : HO) : Hp := fun b => if b = a then some o else none
theorem lawG_core {P : Program} {w : World} {K : PySem.W.Frag} {mg mb : Str → Option Value} {k : Nat} {fa a : Addr} {fd : FuncData} {x : Str} {s : Shared} {vs : List Value} {ns : List Int} (H : Hp)
    (KX : K.In s.heap) (hns : s.heap.Ns mainGlobals mg) (hb : s.heap.Ns builtinsNs mb) (hbb : ∀ x : Str, x ≠ "__name__" → mb x = bootBuiltins x) (hlim : s.heap.NoLimit) (hg : s.gens = #[])
    (ha : s.heap.get? a = some { cls := .type "list", data := .seq vs.toArray }) (hl : ns.length ≤ 63) (hr : Room k callerA)
    (F : ∀ base : Heap, K.In base → base.Ns mainGlobals mg → FnG P w K mg base k fa fd [x] (spLawG K)) (hbind : ∀ (s : Shared) (u : Value), BindsTo s fd ⟨[u], []⟩ [(x, u)])
    (hS : SqL K H a (ns.map V.int)) (hok : HOk P w H s.heap) (hA : ∀ b, H b ≠ none → b = a ∧ K.lookup a = none ∧ ∃ o xs, H b = some (.frz o (.lst xs))) :
    codeAny (model P w) callerA (.call (.ref fa) ⟨[.ref a], []⟩) (fun r s' => r = .ok (.ret (.bool true)) ∧ OldK s.heap s'.heap ∧ s'.os = s.os ∧ AllBare s'.gens) s := by
  have off : ∀ {b : Addr}, b ≠ a → H b = none := fun {b} hb => Classical.byContradiction fun z => hb (hA b z).1
  have seen : ∀ {b : Addr} {o : Obj}, b ≠ a → s.heap.get? b = some o → (hidT s.heap H).get? b = some o := fun hb e => hidT_get e (off hb)
  have notA : ∀ {b : Addr} {o : Obj} {es : Array DictEntry} {ep : Nat}, s.heap.get? b = some o → o.data = .dict es ep → b ≠ a := fun {b o es ep} e d hb => by
    rw [hb, ha] at e
    cases e
    cases (show Data.seq vs.toArray _ = Data.dict es ep from d)
  have names : ∀ {b : Addr} {m : Str → Option Value}, s.heap.Ns b m → (hidT s.heap H).Ns b m := fun ⟨o, es, ep, e, d, r⟩ => ⟨o, es, ep, seen (notA e d) e, d, r⟩
  have kin : K.In (hidT s.heap H) := fun b o e => by
    cases q : H b with
    | none => exact hidT_get (KX b o e) q
    | some u =>
      obtain ⟨rfl, kn, _⟩ := hA b (by rw [q]; exact Option.some_ne_none u)
      rw [kn] at e
      cases e
  have hM : Mod K mg (hidT s.heap H) := ⟨kin, names hns, ⟨mb, names hb, hbb⟩, hlim.elim fun mc h => ⟨mc, names h.1, h.2⟩⟩
  have e0 : Env0 P w K mg (hidT s.heap H) callerA [] s H := by
    refine ⟨rfl, hM, fun b o e => of_hidT e, Nat.le_of_eq (hidT_size _ _), trivial, fun b hb => ?_, hok, .of_eq hg⟩
    cases (show b ∈ ([] : List Addr) from hb)
  refine codeAny_mono ((F _ kin (names hns)).run callerA [] s H ⟨[.ref a], []⟩ [.ref a] [.ref a] (fun v _ => v = .bl true) hr rfl e0 (hbind s (.ref a)) (.cons rfl .nil) ⟨a, ns, rfl, hS, hl, fun _ => rfl⟩) fun r s' h => ?_
  match r, h with
  | .ok (.ret u), h =>
    obtain ⟨v, H', os, bare, un, hok', r', q⟩ := h
    cases q
    cases (show u = Value.bool true from r')
    refine ⟨rfl, OldK.of_keep fun b o e => ?_, os, bare⟩
    cases q : H b with
    | none => exact un.keep b o e q (fun z => by cases (show b ∈ ([] : List Addr) from z)) (fun z => by cases z)
    | some u =>
      obtain ⟨_, _, ob, xs, z⟩ := hA b (by rw [q]; exact Option.some_ne_none u)
      have g1 := (hok b _ z).1
      have g2 := (hok' b _ (un.frzs b ob _ z)).1
      rw [← Option.some.inj (g1.symm.trans e)]
      exact g2
  | .ok .next, h => exact False.elim h
  | .ok .brk, h => exact False.elim h
  | .ok .cont, h => exact False.elim h
  | .error e, h => exact False.elim h
theorem lawG_call {P : Program} {w : World} {K : PySem.W.Frag} {mg mb : Str → Option Value} {k : Nat} {fa a : Addr} {fd : FuncData} {x : Str} {s : Shared} {vs : List Value} {ns : List Int}
    (KX : K.In s.heap) (hns : s.heap.Ns mainGlobals mg) (hb : s.heap.Ns builtinsNs mb) (hbb : ∀ x : Str, x ≠ "__name__" → mb x = bootBuiltins x) (hlim : s.heap.NoLimit) (hg : s.gens = #[])
    (ha : s.heap.get? a = some { cls := .type "list", data := .seq vs.toArray }) (hi : IntsAre vs ns) (hl : ns.length ≤ 63) (hr : Room k callerA)
    (F : ∀ base : Heap, K.In base → base.Ns mainGlobals mg → FnG P w K mg base k fa fd [x] (spLawG K)) (hbind : ∀ (s : Shared) (u : Value), BindsTo s fd ⟨[u], []⟩ [(x, u)]) :
    codeAny (model P w) callerA (.call (.ref fa) ⟨[.ref a], []⟩) (fun r s' => r = .ok (.ret (.bool true)) ∧ OldK s.heap s'.heap ∧ s'.os = s.os ∧ AllBare s'.gens) s := by
  have rv := vals_ints hi
  have l63 : (63 : Nat) ≤ sizeLine := by decide
  have hlv := hi.length
  cases hk : K.lookup a with
  | some o =>
    have e := KX a o hk
    rw [ha] at e
    cases e
    refine lawG_core (ns := ns) (fun _ => none) KX hns hb hbb hlim hg ha hl hr F hbind (.inr ⟨_, vs.toArray, _, hk, rfl, rfl, rfl, ?_, by simpa using rv⟩) (fun b u z => by cases z) (fun b z => absurd rfl z)
    rw [List.size_toArray, hlv]
    exact Nat.le_trans hl l63
  | none =>
    refine lawG_core (ns := ns) (onlyH a (.frz { cls := .type "list", data := .seq vs.toArray } (.lst (ns.map V.int)))) KX hns hb hbb hlim hg ha hl hr F hbind (.inl (.inr ⟨_, if_pos rfl⟩)) (fun b u z => ?_) (fun b z => ?_)
    · by_cases e : b = a
      · subst e
        cases (if_pos rfl).symm.trans z
        exact ⟨ha, Nat.le_trans (Nat.le_of_eq (List.length_map ..)) (Nat.le_trans hl l63), vs, _, rv, ha⟩
      · cases (if_neg e).symm.trans z
    · by_cases e : b = a
      · exact ⟨e, hk, _, _, if_pos e⟩
      · exact absurd (if_neg e) z
/-- the law's walk, from the promise of its def -/
theorem walk_ofG {l : PySem.W.OpenLaw} {k : Nat} {q : Program} {loose : List Str} {XP : (Str → Option Value) → Heap → Prop} {YP : World → Heap → Prop} {d : DefRec} {K : Params → PySem.W.Frag} {x : Str}
    (hn : l.most = some 63) (hdf : d.params.defaults = []) (hr : Room k callerA) (hY : ∀ (w : World) (h : Heap), YP w h → (K w.params).In h)
    (F : ∀ (w : World) (mg : Str → Option Value) (fa : Addr) (h : Heap), (K w.params).In h → h.Ns mainGlobals mg → mg d.name = some (.ref fa) →
      ∃ fd : FuncData, (∀ (s : Shared) (u : Value), BindsTo s fd ⟨[u], []⟩ [(x, u)]) ∧ ∀ base : Heap, (K w.params).In base → base.Ns mainGlobals mg → FnG l.prog w (K w.params) mg base k fa fd [x] (spLawG (K w.params))) :
    PySem.W.WalkO q loose XP YP l.row.toRowW d [] (fun f vs => PySem.call f vs) := by
  refine Att.attach_call hn hdf fun w s₀ s mg mb fa o pm cd doc a vs ns G Y _ _ _ hmg hobj hints hlen hg => ?_
  obtain ⟨fd, hb, hF⟩ := F w mg fa _ (hY w _ Y) G.T.g hmg
  exact lawG_call (hY w _ Y) G.T.g G.T.b G.T.builtins G.T.nolimit hg hobj hints hlen hr hF hb
end W2

set_option Elab.async false
set_option linter.all false
set_option maxRecDepth 100000
/-! W2K: what the top has written, def by def. -/
namespace W2
open PySem PySem.Spec PyProof.Rows L2

/-- a def as it lies in the written part -/
structure FnF (K : PySem.W.Frag) (mg : Str → Option Value) (x : Str) (st : Stmt) (ps : List Str) where
  a : Addr
  d : FuncData
  F : Fun K x x st a d
  m : mg x = some (.ref a)
  b : Binds K d ps []
  bt : ∀ (s : Shared) (us : List Value), us.length = ps.length → BindsTo s d ⟨us, []⟩ (ps.zip us)
def fnF_mk {K : PySem.W.Frag} {h : Heap} {mg : Str → Option Value} (X : K.In h) (G : h.Ns mainGlobals mg) {x : Str} {st : Stmt} {ps : List Str} {f : Addr} {oc kV dc pm cd ct : Value} {od an : Option Addr} {osl : Array (Option Value)}
    (hb : ∀ (kV doc pm : Value) (an : Option Addr) (cdv ct : Value) (us : List Value), us.length = ps.length → bindArgs (PySem.W.fnOf x x (defArgs st) (defBody st) (defScope st) .none kV doc pm an cdv ct) ⟨us, []⟩ = pure (ps.zip us))
    (a1 : PySem.W.nsIn K mainGlobals x = some (some (.ref f))) (l1 : K.lookup f = some ⟨oc, od, .func (PySem.W.fnOf x x (defArgs st) (defBody st) (defScope st) .none kV dc pm an cd ct), osl⟩) (c1 : PySem.W.codeIn K cd x = true) (k1 : PySem.W.keepIn K (.ref f) = true) : FnF K mg x st ps :=
  { a := f, d := _, F := fun_mk l1 c1 k1, m := PySem.W.mg_of X G a1, b := (fun_mk l1 c1 k1).binds hb, bt := fun s us hl => .of_eq (hb _ _ _ _ _ _ us hl) }
theorem fnF_one {x : Str} {st : Stmt} {p : Str} (h : ∀ (kV doc pm : Value) (an : Option Addr) (cdv ct : Value) (u : Value), bindArgs (PySem.W.fnOf x x (defArgs st) (defBody st) (defScope st) .none kV doc pm an cdv ct) ⟨[u], []⟩ = pure [(p, u)]) :
    ∀ (kV doc pm : Value) (an : Option Addr) (cdv ct : Value) (us : List Value), us.length = [p].length → bindArgs (PySem.W.fnOf x x (defArgs st) (defBody st) (defScope st) .none kV doc pm an cdv ct) ⟨us, []⟩ = pure ([p].zip us) :=
  fun kV doc pm an cdv ct us hl => match us, hl with | [u], _ => h kV doc pm an cdv ct u
/-- the four defs of the source -/
theorem len1 {K : PySem.W.Frag} {vs : List V} {H : Hp} {Q : VK} {E : XK} (h : spSource K vs H Q E) : vs.length = 1 := by
  obtain ⟨a, ns, rfl, _⟩ := h
  rfl
theorem lenS {K : PySem.W.Frag} {n : Nat} {wf : WF} {vs : List V} {H : Hp} {Q : VK} {E : XK} (h : spS K n wf vs H Q E) : vs.length = n + 1 := by
  obtain ⟨a, b, vs', F, ds, P, rfl, _, hd, hl, _⟩ := h
  rw [List.length_cons, hd.length, hl]
section
variable {P : Program} {w : World} {K : PySem.W.Frag} {mg : Str → Option Value} {base : Heap} {k : Nat} {f : Addr} {x qual : Str} {st : Stmt} {fd : FuncData}
theorem fn_source (F : Fun K x qual st f fd) (S : FnScope ["script", "mixed", "cell"] ["script"] (defScope st))
    (hb : ∀ (cdv : Value) (A : Around) (outer : List Env) (s : Shared) (H : Hp), PSs (cxOf CX0 P w K mg base ["script", "mixed", "cell"] qual (defScope st) f cdv A outer s H E0).nox (defBody st) (tSource K)) : FnG P w K mg base (k + 1) f fd ["script"] (spSource K) :=
  fnG_of F S (fun vs H Q E h => len1 h) fun cdv A outer s H vs Q hr hG h => ⟨_, hb cdv A outer s H, sem_source h⟩
theorem fn_pick (F : Fun K x qual st f fd) (S : FnScope ["source", "many", "left", "mixed"] ["source", "many"] (defScope st))
    (hb : ∀ (cdv : Value) (A : Around) (outer : List Env) (s : Shared) (H : Hp), Room k (A.deeper (envOfC qual (defScope st) s.heap.objs.size f cdv)) → PSs (cxOf CX0 P w K mg base ["source", "many", "left", "mixed"] qual (defScope st) f cdv A outer s H E0).nox (defBody st) (tPick K)) : FnG P w K mg base (k + 1) f fd ["source", "many"] (spS K 1 wfPick) :=
  fnG_of F S (fun vs H Q E h => lenS h) fun cdv A outer s H vs Q hr hG h => ⟨_, hb cdv A outer s H hr, sem_pick h⟩
theorem fn_mixed (F : Fun K x qual st f fd) (S : FnScope ["source", "things", "rest", "lap"] ["source", "things"] (defScope st))
    (hb : ∀ (cdv : Value) (A : Around) (outer : List Env) (s : Shared) (H : Hp), Room k (A.deeper (envOfC qual (defScope st) s.heap.objs.size f cdv)) → (A.deeper (envOfC qual (defScope st) s.heap.objs.size f cdv)).guards = some [] → PSs (cxOf CX0 P w K mg base ["source", "things", "rest", "lap"] qual (defScope st) f cdv A outer s H E0).nox (defBody st) (tMixed K)) : FnG P w K mg base (k + 1) f fd ["source", "things"] (spS K 1 wfMixed) :=
  fnG_of F S (fun vs H Q E h => lenS h) fun cdv A outer s H vs Q hr hG h => ⟨_, hb cdv A outer s H hr hG, sem_mixed h⟩
end
/-- one of some: what its body does -/
theorem of_law {ds : List D} {Q : D → Prop} (hl : ds.length = 1) (h : wfOf ds Q) : wbOf { nx := fun _ => Q .none, rt := Q } (startE ["source", "some"] (.src :: ds.map .fz)) := by
  obtain ⟨d, rfl⟩ : ∃ d, ds = [d] := by
    match ds, hl with
    | [d], _ => exact ⟨d, rfl⟩
  have go : ∀ (xs : List D) (P : D → Prop), xs ≠ [] → xs.length < 1073741824 → (∀ x ∈ xs, P x) → (xs.length : Int) < 1073741824 ∧ ∀ r : Int, 0 ≤ r → r < max 1 (xs.length : Int) → ∃ x, L2.atI xs r = some x ∧ P x := fun xs P ne lt h => by
    refine ⟨by omega, fun r h0 h1 => ?_⟩
    have pos : 0 < xs.length := by cases xs with | nil => exact absurd rfl ne | cons _ _ => exact Nat.succ_pos _
    have hr : r.toNat < xs.length := by omega
    refine ⟨xs[r.toNat], ?_, h _ (List.getElem_mem _)⟩
    unfold L2.atI ixN
    rw [if_pos h0, if_pos (by omega)]
    exact List.getElem?_eq_getElem hr
  cases d <;> first | exact h.elim | skip
  · rename_i xs
    obtain ⟨g1, g2⟩ := go xs Q h.1 h.2.1 h.2.2
    exact ⟨rfl, g1, fun r h0 h1 => g2 r h0 h1⟩
  · rename_i xs
    obtain ⟨g1, g2⟩ := go xs Q h.1 h.2.1 h.2.2
    exact ⟨rfl, g1, fun r h0 h1 => g2 r h0 h1⟩
end W2

set_option Elab.async false
set_option linter.all false
set_option maxRecDepth 100000
/-! W2X: rules whose reading names the written part K: K is given apart. Printed by mkx.py. -/
namespace W2
open PySem PySem.Spec PyProof.Rows L2
def wFnOw (n : Nat) (wf : WF) (wa : WA) : WE := fun η Q => ownDicts η = true ∧ wFnB n wf wa η Q
section
variable {X : Cx} (K : PySem.W.Frag) (hK : X.K = K)
include hK

theorem op_addK  : OpR X (binaryOp .Add) (rAddA K) := by
  subst hK
  exact op_addA
theorem op_eqK (hu : X.A.units + 64 < cLine) : OpR X (compareOp .Eq) (rEqA K) := by
  subst hK
  exact op_eqA hu
theorem op_neK (hu : X.A.units + 64 < cLine) : OpR X (compareOp .NotEq) (rNeA K) := by
  subst hK
  exact op_neA hu
theorem op_inK (hu : X.A.units + 65 < cLine) : OpR X (compareOp .In) (rInA K) := by
  subst hK
  exact op_inA hu
theorem op_notInK (hu : X.A.units + 65 < cLine) : OpR X (compareOp .NotIn) (rNotInA K) := by
  subst hK
  exact op_notInA hu
theorem cr_lenK  : CallR X (.builtin "len") (rLenA K) := by
  subst hK
  exact cr_len
abbrev rTup1 (K : PySem.W.Frag) : List V → Hp → VK → Prop := fun xs H Q => ∃ p ys, xs = [.ref p] ∧ ((SqL K H p ys ∧ ∀ l, H l = none → Q (.ref l) (upd H l (.tup ys))) ∨ (SqT K H p ys ∧ Q (.ref p) H))
abbrev rLst1 (K : PySem.W.Frag) : List V → Hp → VK → Prop := fun xs H Q => ∃ p ys, xs = [.ref p] ∧ (SqL K H p ys ∨ SqT K H p ys) ∧ ∀ l, H l = none → Q (.ref l) (upd H l (.lst ys))
theorem cr_tupleK  : CallR X (.type "tuple") (rTup1 K) := by
  subst hK
  exact call_tuple_of
theorem cr_listK  : CallR X (.type "list") (rLst1 K) := by
  subst hK
  exact call_list_of
theorem cr_sortedK (hc : X.calm = true) (hu : X.A.units + 70 < cLine) : CallR X (.builtin "sorted") (rSortA K) := by
  subst hK
  exact cr_sortedA hc hu
theorem cr_reprK (hu : X.A.units + 70 < cLine) (hG : X.A.guards = some []) : CallR X (.builtin "repr") (rRepr K) := by
  subst hK
  exact cr_repr hu hG
theorem cr_sumK (hc : X.calm = true) : CallR X (.builtin "sum") (rSum K) := by
  subst hK
  exact cr_sum hc
theorem cr_maxK (hc : X.calm = true) : CallR X (.builtin "max") (rMax K) := by
  subst hK
  exact cr_max hc
theorem cr_minK (hc : X.calm = true) : CallR X (.builtin "min") (rMin K) := by
  subst hK
  exact cr_min hc
theorem cr_allK (hc : X.calm = true) : CallR X (.builtin "all") (rAll K) := by
  subst hK
  exact cr_all hc
theorem cr_anyK (hc : X.calm = true) : CallR X (.builtin "any") (rAny K) := by
  subst hK
  exact cr_any hc
theorem cr_dictK (hc : X.calm = true) : CallR X (.type "dict") (rDictA K) := by
  subst hK
  exact cr_dict hc
theorem dg_tupK {es : List Expr} {k : Nat} {t : TGs} {n : Nat} {pos : Pos} {ws : WGs} {L : List Nat} (hc : X.calm = true) (h : DGs X es t ws L) (hn : (assignEach es X.env).length = n := by rfl) (hst : (assignEach es X.env).findIdx? (·.1) = none := by rfl) : DG X (.Tuple es k pos) (fun v σ H Q => gTup K n t v σ H Q ∨ gUnl K n t v σ H Q) (wGt n ws) L := by
  subst hK
  exact dg_tup hc h hn hst
theorem di_itemsK {tg e : Expr} {te : TE} {we : WE} (he : DE X e te we) : DI X tg e (iAny K te) (wItems we) := by
  subst hK
  exact di_items he
theorem de_ixK {a b : Expr} {ta tb : TE} {wa wb : WE} {pos : Pos} (hu : X.A.units + 1 < cLine) (hs : PlainIx b) (ha : DO X a ta wa) (hb : DE X b tb wb) : DE X (.Subscript a b pos) (tOp (fun x y H Q => rIx K x y H Q ∨ rIxDct x y H Q) ta tb) (w2 gIxA wa wb) := by
  subst hK
  exact de_ixA hu hs ha hb
theorem de_sliceK {e : Expr} {lo hi : Option Expr} {te : TE} {we : WE} {tl th : TO} {wl wh : WO} {pos p2 : Pos} (he : DO X e te we) (hl : DPO X lo tl wl) (hh : DPO X hi th wh) : DE X (.Subscript e (.Slice lo hi none p2) pos) (tSl (rSlB K) te tl th) (wSl we wl wh) := by
  subst hK
  exact de_slice he hl hh
theorem dl_sliceK {e : Expr} {lo hi : Option Expr} {te : TE} {we : WE} {tl th : TO} {wl wh : WO} {pos p2 : Pos} (he : DO X e te we) (hl : DPO X lo tl wl) (hh : DPO X hi th wh) : DL X (.Subscript e (.Slice lo hi none p2) pos) (tSl (rSlL K) te tl th) (wSlL we wl wh) := by
  subst hK
  exact dl_slice he hl hh
theorem de_revTK {e : Expr} {te : TE} {we : WE} {k : Nat} {p1 p2 p3 pos : Pos} (he : DE X e te we) : DE X (.Subscript e (.Slice none none (some (.UnaryOp .USub (.Constant (.int 1) k p1) p2)) p3) pos) (tRevT K te) (wRevT we) := by
  subst hK
  exact de_revT he
theorem dl_revK {e : Expr} {te : TE} {we : WE} {k : Nat} {p1 p2 p3 pos : Pos} (he : DO X e te we) : DL X (.Subscript e (.Slice none none (some (.UnaryOp .USub (.Constant (.int 1) k p1) p2)) p3) pos) (tRevL K te) (wRevL we) := by
  subst hK
  exact dl_rev (p4 := ⟨0, 0, 0, 0⟩) he
theorem di_enumK {e : Expr} {te : TE} {we : WE} {elts : List Expr} {kk : Nat} {tpos p pos : Pos} (hg : Gl X "enumerate") (hm : X.mg "enumerate" = none) (he : DE X e te we) (hs : starEach [e] X.env = [(false, eval e X.env)] := by rfl) : DI X (.Tuple elts kk tpos) (.Call (.Name "enumerate" p) [e] [] pos) (iEnumA K (tCons te tNil)) (wEnum we) := by
  subst hK
  exact di_enum hg hm he hs
theorem de_fnK {k n : Nat} {f : Addr} {fd : FuncData} {ps : List Str} {wf : WF} {x : Str} {p pos : Pos} {e : Expr} {es : List Expr} {ta : TA} {wa : WA} (G : FnG X.prog X.w K X.mg X.base k f fd ps (spW K n wf)) (hr : Room k X.A) (hG : X.A.guards = some []) (hm : X.mg x = some (.ref f)) (hk : PySem.W.keepIn K (.ref f) = true) (hb : Binds K fd ps []) (hg : Gl X x) (ha : DB X (e :: es) ta wa) (hdb : (x == ("__debug__" : Str)) = false := by decide) (he : starEach (e :: es) X.env = (false, eval e X.env) :: starEach es X.env := by rfl) (hpl : (backTo pos (starEach es X.env)).any (·.1) = false := by rfl) : DE X (.Call (.Name x p) (e :: es) [] pos) (tCall (spW K n wf) [] E0 ta) (wFn n wf wa) := by
  subst hK
  exact de_fn G hr hG hm hk hb hg ha hdb he hpl
theorem de_fnSK (i : Nat) {k n : Nat} {f : Addr} {fd : FuncData} {ps : List Str} {wf : WF} {x : Str} {p pos : Pos} {e : Expr} {es : List Expr} {ta : TA} {wa : WA} (G : FnG X.prog X.w K X.mg X.base k f fd ps (spS K n wf)) (hr : Room k X.A) (hG : X.A.guards = some []) (hm : X.mg x = some (.ref f)) (hk : PySem.W.keepIn K (.ref f) = true) (hb : Binds K fd ps []) (hg : Gl X x) (hn : PE X e (tVar i)) (ha : DB X es ta wa) (hdb : (x == ("__debug__" : Str)) = false := by decide) (he : starEach (e :: es) X.env = (false, eval e X.env) :: starEach es X.env := by rfl) (hpl : (backTo pos (starEach es X.env)).any (·.1) = false := by rfl) : DE X (.Call (.Name x p) (e :: es) [] pos) (tCall (spS K n wf) [] E0 (tCons (tVar i) ta)) (wFnS i n wf wa) := by
  subst hK
  exact de_fnS i G hr hG hm hk hb hg hn ha hdb he hpl
theorem dt_truthK {a : Expr} {ta : TE} {wa : WE} (ha : DO X a ta wa) (he : ∀ whole, isTrue a X.env whole = (do let v ← whole; standAt a.pos; holding [v] (truthy v)) := by intro _; rfl) : DTs X a (fun σ H Q => ta σ H fun x H' => ∃ k, TruV K x H' k ∧ Q k H') (wTr wa) := by
  subst hK
  exact dt_truth ha he
theorem de_fnBK {k n : Nat} {f : Addr} {fd : FuncData} {ps : List Str} {wf : WF} {x : Str} {p pos : Pos} {e : Expr} {es : List Expr} {ta : TA} {wa : WA} (G : FnG X.prog X.w K X.mg X.base k f fd ps (spW K n wf)) (hr : Room k X.A) (hG : X.A.guards = some []) (hm : X.mg x = some (.ref f)) (hk : PySem.W.keepIn K (.ref f) = true) (hb : Binds K fd ps []) (hg : Gl X x) (ha : DA X (e :: es) ta wa) (hdb : (x == ("__debug__" : Str)) = false := by decide) (he : starEach (e :: es) X.env = (false, eval e X.env) :: starEach es X.env := by rfl) (hpl : (backTo pos (starEach es X.env)).any (·.1) = false := by rfl) : DE X (.Call (.Name x p) (e :: es) [] pos) (tCall (spW K n wf) [] E0 ta) (wFnOw n wf wa) := by
  subst hK
  exact de_fnB G hr hG hm hk hb hg ha hdb he hpl
end
end W2

set_option Elab.async false
set_option linter.all false
set_option maxRecDepth 100000
/-! W2J: isinstance(x, T), T a built-in type by its name; is, is not. -/
namespace W2
open PySem PySem.Spec PyProof.Rows L2

def tyN : D → String
  | .none => "NoneType"
  | .bool _ => "bool"
  | .int _ => "int"
  | .str _ => "str"
  | .list _ => "list"
  | .tuple _ => "tuple"
  | .dict _ => "dict"
def isiT (d : D) (T : String) : Bool := match d with
  | .bool _ => T == "bool" || T == "int"
  | d => T == tyN d
theorem kit_tuple (K : PySem.W.Frag) (d : D) : PySem.W.kitOne K (.type (tyN d)) (.type "tuple") = some (isiT d "tuple") := by cases d <;> kernel_rfl
theorem kit_int (K : PySem.W.Frag) (d : D) : PySem.W.kitOne K (.type (tyN d)) (.type "int") = some (isiT d "int") := by cases d <;> kernel_rfl
theorem kit_bool (K : PySem.W.Frag) (d : D) : PySem.W.kitOne K (.type (tyN d)) (.type "bool") = some (isiT d "bool") := by cases d <;> kernel_rfl
theorem kit_str (K : PySem.W.Frag) (d : D) : PySem.W.kitOne K (.type (tyN d)) (.type "str") = some (isiT d "str") := by cases d <;> kernel_rfl
theorem kit_list (K : PySem.W.Frag) (d : D) : PySem.W.kitOne K (.type (tyN d)) (.type "list") = some (isiT d "list") := by cases d <;> kernel_rfl
theorem kit_dict (K : PySem.W.Frag) (d : D) : PySem.W.kitOne K (.type (tyN d)) (.type "dict") = some (isiT d "dict") := by cases d <;> kernel_rfl
/-- a value's type, a locked dict of tuple keys too -/
def TyZ (K : PySem.W.Frag) (H : Hp) (x : V) (t : Value) : Prop := TyX K H x t ∨ ∃ a o kvs, x = .ref a ∧ t = .type "dict" ∧ H a = some (.frz o (.dT kvs))
theorem Nw.ty {K : PySem.W.Frag} {sx : Sx} {F H : Hp} {v : V} {d : D} (b : Base sx F H) (h : Nw K F H v d) : TyZ K H v (.type (tyN d)) := by
  cases d with
  | none => cases h.none; exact .inl (.base .non)
  | bool x => cases h.bool; exact .inl (.base (.bl x))
  | int x => cases h.int; exact .inl (.base (.int x))
  | str x => cases h.str; exact .inl (.base (.str x))
  | list ds => obtain ⟨a, xs, rfl, h1, _⟩ := h.list b.le; exact .inl (.base (.lst h1))
  | tuple ds => obtain ⟨a, xs, rfl, h1, _⟩ := h.tuple; exact .inl (.base (.tup (b.le _ _ h1)))
  | dict es =>
    obtain ⟨a, rfl, ⟨kvs, rd, _⟩ | ⟨kvs, rd, _⟩⟩ := h.dict b.le
    · rcases rd with rd | ⟨o, rd⟩
      · exact .inl (.base (.dK rd))
      · exact .inl (.fDict rd)
    · rcases rd with rd | ⟨o, rd⟩
      · exact .inl (.base (.dT rd))
      · exact .inr ⟨a, o, kvs, rfl, rfl, rd⟩
def rIsiZ (K : PySem.W.Frag) (T : String) : List V → Hp → VK → Prop := fun xs H Q => ∃ (x : V) (t : Value) (b : Bool), xs = [x, .ty T] ∧ TyZ K H x t ∧ PySem.W.kitOne K t (.type T) = some b ∧ Q (.bl b) H
theorem cr_isi {X : Cx} (T : String) : CallR X (.builtin "isinstance") (rIsiZ X.K T) := by
  intro pins s σ H xs us Q I r h
  obtain ⟨x, t, b, rfl, ty, e, q⟩ := h
  rcases ty with ty | ⟨a, o, kvs, rfl, rfl, hd⟩
  · exact call_isi pins s σ H _ us Q I r ⟨x, .ty T, t, .type T, b, rfl, .ty T, ty, e, q⟩
  · obtain ⟨u1, u2, rfl, r1, r2⟩ := vals2 r
    cases (show u1 = Value.ref a from r1)
    cases (show u2 = Value.type T from r2)
    obtain ⟨hd', z, hs, xs, pr, ob, es, ep, ho, hx, hdt, he, _⟩ := I.hok a _ hd
    exact PySem.W.kia_one PySem.W.kitx_dict I.kIn ⟨ob, ho, hx.1⟩ e (fun z => nomatch z) fun tk => ⟨.bl b, H, I.tok tk, rfl, q⟩
theorem pe_ty {X : Cx} {T : String} {x : Str} {pos : Pos} (hg : Gl X x) (hm : X.mg x = none) (hv : bootBuiltins x = some (.type T)) (hn : x ≠ "__name__" := by decide) (hd : (x == ("__debug__" : Str)) = false := by decide) : PE X (.Name x pos) (tC (.ty T)) :=
  ⟨fun pins s σ H Q I h => ld_blt I hg hm hv ⟨.ty T, H, I, rfl, h⟩ hn hd⟩
def wIsi (T : String) (we : WE) : WE := fun η Q => we η fun d => Q (.bool (isiT d T))
section
variable {X : Cx} {e : Expr} {te : TE} {we : WE} {p p2 pos : Pos} {T : String} {x : Str}
theorem de_isi (K : PySem.W.Frag) (hK : X.K = K) (hk : ∀ (K : PySem.W.Frag) (d : D), PySem.W.kitOne K (.type (tyN d)) (.type T) = some (isiT d T)) (hv : bootBuiltins x = some (.type T)) (hg : Gl X "isinstance") (hm : X.mg "isinstance" = none) (hgx : Gl X x) (hmx : X.mg x = none) (he : DO X e te we)
    (hb : bootBuiltins "isinstance" = some (.builtin "isinstance")) (hn : x ≠ "__name__" := by decide) (hd : (x == ("__debug__" : Str)) = false := by decide)
    (hs : starEach [e, .Name x p2] X.env = (false, eval e X.env) :: starEach [.Name x p2] X.env := by rfl) (hs2 : starEach [.Name x p2] X.env = (false, eval (.Name x p2) X.env) :: starEach [] X.env := by rfl) (hpl : (backTo pos (starEach [.Name x p2] X.env)).any (·.1) = false := by rfl) :
    DE X (.Call (.Name "isinstance" p) [e, .Name x p2] [] pos) (tCB (rIsiZ K T) (tCons te (tCons (tC (.ty T)) tNil))) (wIsi T we) := by
  subst hK
  refine ⟨pe_callB (cr_isi T) hg hm hb (pa_cons he.pe (pa_cons (pe_ty hgx hmx hv hn hd) pa_nil hs2) hs) (by decide) (by decide) hs hpl, fun {sx H0 F0 F σ H η Q R} r hw k => he.sem r hw fun d v F1 H1 q e o => ?_⟩
  have r1 := r.ext e
  exact ⟨v, _, _, rfl, (o.nw r1).ty r1.base, hk _ d, (k.ext e).now r1.base q (.bl _)⟩
end
theorem bt_isinstance : bootBuiltins "isinstance" = some (.builtin "isinstance") := by decide +kernel
/-! ### is, is not: None, a truth value -/
def gIs (neg : Bool) : D → D → (D → Prop) → Prop
  | x, .none, Q => Q (.bool (match x with | .none => !neg | _ => neg))
  | .bool a, .bool b, Q => Q (.bool (if neg then !decide (a = b) else decide (a = b)))
  | _, _, _ => False
def rIsA (neg : Bool) : R2 := fun x y H Q => (y = .non ∧ Q (.bl (if neg then !decide (x = .non) else decide (x = .non))) H) ∨ ∃ a b, x = .bl a ∧ y = .bl b ∧ Q (.bl (if neg then !decide (a = b) else decide (a = b))) H
theorem op_isA {X : Cx} : OpR X (compareOp .Is) (rIsA false) := OpR.or op_isN op_isBl
theorem op_notA {X : Cx} : OpR X (compareOp .IsNot) (rIsA true) := OpR.or op_notN op_notBl
theorem rs_is {K : PySem.W.Frag} {neg : Bool} : RSem K (rIsA neg) (gIs neg) := fun {sx F H x y dx dy Q R} b hx hy hg k => by
  cases dy with
  | none =>
    cases hy.none
    refine .inl ⟨rfl, ?_⟩
    by_cases e : dx = .none
    · subst e
      cases hx.none
      have hg' : Q (.bool (!neg)) := hg
      have := k.now b (d := .bool (!neg)) (v := .bl (!neg)) hg' (.bl _)
      cases neg <;> exact this
    · have hn := hx.notNon e
      have hg' : Q (.bool neg) := by cases dx <;> first | exact absurd rfl e | exact hg
      have := k.now b (d := .bool neg) (v := .bl neg) hg' (.bl _)
      cases neg
      · rw [if_neg Bool.false_ne_true, decide_eq_false hn]; exact this
      · rw [if_pos rfl, decide_eq_false hn]; exact this
  | bool c =>
    cases dx <;> first | exact hg.elim | skip
    cases hx.bool; cases hy.bool
    exact .inr ⟨_, _, rfl, rfl, k.now b hg (.bl _)⟩
  | _ => cases dx <;> exact hg.elim
end W2

set_option Elab.async false
set_option linter.all false
set_option maxRecDepth 100000
/-! W2O: starred places, while, x op= e, dict displays, a new dict frozen at once. -/
namespace W2
open PySem PySem.Spec PyProof.Rows L2

/-! ### (*x, y) -/
def wStar (we : WE) (w : WA) : WA := fun η Q => we η fun d => match d with
  | .list ds => w η fun es => Q (ds ++ es)
  | .tuple ds => w η fun es => Q (ds ++ es)
  | _ => False
section
variable {X : Cx} {e : Expr} {es : List Expr} {te : TE} {t : TA} {we : WE} {w : WA} {p : Pos}
theorem db_star (K : PySem.W.Frag) (hK : X.K = K) (h : DO X e te we) (hr : DB X es t w) (hs : starEach (.Starred e p :: es) X.env = (true, eval e X.env) :: starEach es X.env := by rfl) : DB X (.Starred e p :: es) (StX.tStar K te t) (wStar we w) := by
  subst hK
  refine ⟨StX.pa_star h.pe hr.pa hs, fun {sx H0 F0 F σ H η Q R} r hw k => h.sem r hw fun d v F1 H1 q e1 o => ?_⟩
  have r1 := r.ext e1
  cases d <;> first | exact q.elim | skip
  · obtain ⟨a, xs, rfl, h1, h2⟩ := (o.nw r1).list r1.base.le
    exact ⟨a, xs, rfl, .inr (SqL.of h1), hr.sem r1 q fun ds vs F2 H2 q2 e2 hd => k _ _ F2 H2 q2 (e1.trans e2) ((h2.mono e2.sF).append hd)⟩
  · obtain ⟨a, xs, rfl, h1, h2⟩ := (o.nw r1).tupleH r1.base.le
    exact ⟨a, xs, rfl, .inl h1, hr.sem r1 q fun ds vs F2 H2 q2 e2 hd => k _ _ F2 H2 q2 (e1.trans e2) ((h2.mono e2.sF).append hd)⟩
end

/-! ### while -/
theorem sem_while {K : PySem.W.Frag} {tc : TT} {wc : WT} {tb : TS} {wb : WS} (hc : SemT K tc wc) (hb : SemS K tb wb) : SemS K (tWhile tc tb) (wWhile wc wb) := fun {sx H0 F0 F σ H η D R} r hw k => by
  obtain ⟨I, ⟨m0, i0⟩, turn⟩ := hw
  refine ⟨fun m σ' H' => ∃ F' η', Same F F' ∧ Rep K sx H0 F0 F' σ' H' η' ∧ I m η', ⟨m0, F, η, Same.refl _, r, i0⟩, ?_⟩
  rintro m σ' H' ⟨F', η', sF, r', hi⟩
  refine hc r' (turn m η' hi) fun b F1 H1 q e => ?_
  cases b with
  | true =>
    rw [if_pos rfl] at q ⊢
    refine ⟨fun σ2 H2 => ∃ m', m' < m ∧ ∃ F2 η2, Same F F2 ∧ Rep K sx H0 F0 F2 σ2 H2 η2 ∧ I m' η2, fun σ2 H2 ⟨m', lt, F2, η2, a1, a2, a3⟩ => ⟨m', lt, F2, η2, a1, a2, a3⟩, ?_⟩
    have s1 := sF.trans e.sF
    exact hb (r'.ext e) q ⟨fun η4 σ4 F4 H4 q4 s4 r4 => ⟨q4.choose, q4.choose_spec.1, F4, η4, s1.trans s4, r4, q4.choose_spec.2⟩, fun η4 σ4 F4 H4 q4 s4 r4 => k.nx _ _ _ _ q4 (s1.trans s4) r4,
      fun η4 σ4 F4 H4 q4 s4 r4 => ⟨q4.choose, q4.choose_spec.1, F4, η4, s1.trans s4, r4, q4.choose_spec.2⟩, k.rt⟩
  | false =>
    rw [if_neg Bool.false_ne_true] at q ⊢
    exact k.nx _ _ _ _ q (sF.trans e.sF) (r'.ext e)
theorem ds_while {X : Cx} {c : Expr} {body : List Stmt} {pos : Pos} {tc : TT} {wc : WT} {tb : TS} {wb : WS} (hp : PassesOwn (model X.prog X.w) X.A X.env X.xe) (hc : DTs X c tc wc) (hb : DSs X body tb wb) : DS X (.While c body [] pos) (tWhile tc tb) (wWhile wc wb) :=
  ⟨ps_while hp hc.pt hb.pss, sem_while hc.sem hb.sem⟩

/-! ### name op= e, a frozen value -/
def wAug (i : Nat) (we : WE) (g : D → D → (D → Prop) → Prop) : WS := fun W η => match η[i]? with
  | some (.fz x) => we η fun y => g x y fun z => W.nx (η.set i (.fz z))
  | _ => False
theorem sem_aug {K : PySem.W.Frag} {i : Nat} {te : TE} {we : WE} {r : R2} {g : D → D → (D → Prop) → Prop} (hs : RSem K r g) (he : SemO K te we) : SemS K (tAug i te r) (wAug i we g) := fun {sx H0 F0 F σ H η D R} rp hw k => by
  unfold wAug at hw
  split at hw
  · rename_i x hi
    obtain ⟨sv, hv, v, rfl, hd⟩ := rp.val hi
    refine ⟨v, hv, he rp hw fun y u F1 H1 q e o => ?_⟩
    have r1 := rp.ext e
    refine hs r1.base (.inl (hd.mono e.sF)) (o.nw r1) q fun z w F2 H2 q2 e2 hz => ?_
    exact k.nx _ _ _ _ q2 (e.sF.trans e2.sF) ((r1.ext e2).setFz i hz)
  · exact hw.elim
section
variable {X : Cx} {x : Str} {e : Expr} {te : TE} {we : WE} {op : Operator} {pos' pos : Pos} {r : R2} {g : D → D → (D → Prop) → Prop}
theorem ds_aug (i : Nat) (hN : X.N.Nodup) (ho : OpR X (inplaceOp op) r) (hs : RSem X.K r g) (he : DO X e te we) (hi : X.N[i]? = some x := by rfl) (hx : Loc X.env.scope x := by first | exact Or.inl rfl | exact Or.inr rfl)
    (hf : X.fn x = true ∨ X.env.scope.names.lookup x = some .local := by first | exact .inl rfl | exact .inr rfl) : DS X (.AugAssign (.Name x pos') op e pos) (tAug i te r) (wAug i we g) :=
  ⟨ps_aug hN hi hx he.pe ho hf, sem_aug hs he.sem⟩
theorem iop_mulW : OpR X (inplaceOp .Mult) (rI CMulW fun i j => .int (i * j)) := opI fun _ _ _ _ _ _ _ hc q => imul_int q hc.ok
end

/-! ### a new dict frozen at once -/
def tLk (t : TE) : TE := fun σ H Q => t σ H fun x H1 => ∃ a u, x = .ref a ∧ H1 a = some u ∧ Mut (some u) ∧ ∀ o, Q x (upd H1 a (.frz o u))
theorem pe_lk {X : Cx} {e : Expr} {t : TE} (h : PE X e t) : PE X e (tLk t) := ⟨fun pins s σ H Q I hw => thn (h.run pins s σ H _ I hw) fun u s1 ⟨x, H1, I1, rx, a, v, ex, hv, mu, q⟩ => by
  obtain ⟨o, I2⟩ := I1.lock hv mu
  exact ⟨x, _, I2, rx, q o⟩⟩
theorem DD.fr {X : Cx} {e : Expr} {t : TE} {w : WE} (h : DD X e t w) : DE X e (tLk t) w :=
  ⟨pe_lk h.pe, fun {sx H0 F0 F σ H η Q R} r hw k => h.sem r hw fun es a F1 H1 q e ho hF hn => by
    have r1 := r.ext e
    have nx : ¬ inSx sx a := fun z => by obtain ⟨o, q⟩ := r.base.ok.there z; rw [hn] at q; cases q
    have go : ∀ (u : HO), H1 a = some u → (∀ o F2, Same F1 F2 → F2 a = some (.frz o u) → Dt X.K F2 (.ref a) (.dict es)) → ∀ o, R (.ref a) (upd H1 a (.frz o u)) := fun u hu hd o => by
      have s1 : Same F1 (upd F1 a (.frz o u)) := fun b v z => by rw [upd_ne (ne_of_none z hF)]; exact z
      refine k (.dict es) (.ref a) (upd F1 a (.frz o u)) _ q ⟨e.sF.trans s1, fun b v z n => ?_, fun b v z => ?_, fun b v z => ?_, ?_⟩ (hd o _ s1 upd_same)
      · rw [upd_ne (ne_of_none z hn)]; exact e.sH _ _ z n
      · by_cases c : b = a
        · subst c; rw [upd_same] at z ⊢; exact z
        · rw [upd_ne c] at z ⊢; exact e.le _ _ z
      · by_cases c : b = a
        · subst c; exact .inr (.inl hn)
        · rw [upd_ne c] at z; exact e.fr _ _ z
      · cases sx with
        | none => trivial
        | some p =>
          obtain ⟨a1, b1⟩ := p
          obtain ⟨n, cs, l, m, t, z1, z2, z⟩ := e.ok
          exact ⟨n, cs, l, m, t, by rw [upd_ne (fun z => nx (.inl z.symm))]; exact z1, by rw [upd_ne (fun z => nx (.inr z.symm))]; exact z2, z⟩
    rcases ho with ⟨kvs, h1, h2⟩ | ⟨kvs, h1, h2⟩
    · exact ⟨a, _, rfl, h1, trivial, go _ h1 fun o F2 s hF2 => .dK hF2 (h2.mono s)⟩
    · exact ⟨a, _, rfl, h1, trivial, go _ h1 fun o F2 s hF2 => .dT hF2 (h2.mono s)⟩⟩
/-! ### {k: v, ..}, keys ints and texts -/
def wPairs : List (WE × WE) → En → (List (D × D) → Prop) → Prop
  | [], _, Q => Q []
  | (wk, wv) :: r, η, Q => wk η fun k => wv η fun v => wPairs r η fun ps => Q ((k, v) :: ps)
structure DPs (X : Cx) (pos : Pos) (keys : List (Option Expr)) (values : List Expr) (trs : List (TE × TE)) (ws : List (WE × WE)) : Prop where
  pps : PPs X pos keys values trs
  sem : ∀ {sx : Sx} {H0 F0 F : Hp} {σ : L2.St} {H : Hp} {η : En} {Q : List (D × D) → Prop} {R : List (V × V) → Hp → Prop}, Rep X.K sx H0 F0 F σ H η → wPairs ws η Q →
    (∀ ds ps F' H', Q ds → ds.length = trs.length → Ext2 sx F H F' H' → Paired (fun (p : V × V) (d : D × D) => Dt X.K F' p.1 d.1 ∧ Dt X.K F' p.2 d.2) ps ds → R ps H') → tPairs trs σ H R
section
variable {X : Cx} {pos : Pos} {k v : Expr} {ks : List (Option Expr)} {vs : List Expr} {tk tv : TE} {wk wv : WE} {trs : List (TE × TE)} {ws : List (WE × WE)}
theorem dps_nil : DPs X pos [] [] [] [] := ⟨pps_nil, fun r hw kk => kk [] [] _ _ hw rfl (.refl r.base) .nil⟩
theorem dps_cons (hk : DE X k tk wk) (hv : DE X v tv wv) (hr : DPs X pos ks vs trs ws) : DPs X pos (some k :: ks) (v :: vs) ((tk, tv) :: trs) ((wk, wv) :: ws) :=
  ⟨pps_cons hk.pe hv.pe hr.pps, fun r hw kk => hk.sem r hw fun dk x F1 H1 q1 e1 h1 => hv.sem (r.ext e1) q1 fun dv y F2 H2 q2 e2 h2 => hr.sem ((r.ext e1).ext e2) q2 fun ds ps F3 H3 q3 l3 e3 h3 =>
    kk _ _ F3 H3 q3 (congrArg (· + 1) l3) ((e1.trans e2).trans e3) (.cons ⟨h1.mono (e2.sF.trans e3.sF), h2.mono e3.sF⟩ h3)⟩
end
def keysOf : List (D × D) → Option (List (Key × D))
  | [] => some []
  | (.int i, v) :: r => (keysOf r).map ((.inl i, v) :: ·)
  | (.str x, v) :: r => (keysOf r).map ((.inr x, v) :: ·)
  | _ => none
def wDisp (ws : List (WE × WE)) : WE := fun η Q => wPairs ws η fun ps => ∃ kvs, keysOf ps = some kvs ∧ Q (.dict (mergeD kvs))
theorem keys_dt {K : PySem.W.Frag} {F : Hp} : ∀ {ps : List (V × V)} {ds : List (D × D)} {kvs : List (Key × D)}, Paired (fun (p : V × V) (d : D × D) => Dt K F p.1 d.1 ∧ Dt K F p.2 d.2) ps ds → keysOf ds = some kvs →
    ∃ kvv : List (Key × V), ps = kvv.map (fun kv => (kV kv.1, kv.2)) ∧ Paired (fun (x : Key × V) (y : Key × D) => x.1 = y.1 ∧ Dt K F x.2 y.2) kvv kvs
  | _, _, _, .nil, e => by cases e; exact ⟨[], rfl, .nil⟩
  | p :: ps, (dk, dv) :: ds, kvs, .cons h t, e => by
    have go : ∀ (k : Key) (r : List (Key × D)), dk = kD k → keysOf ds = some r → kvs = (k, dv) :: r → ∃ kvv : List (Key × V), p :: ps = kvv.map (fun kv => (kV kv.1, kv.2)) ∧ Paired (fun (x : Key × V) (y : Key × D) => x.1 = y.1 ∧ Dt K F x.2 y.2) kvv kvs := fun k r e1 e2 e3 => by
      obtain ⟨kvv, h1, h2⟩ := keys_dt t e2
      subst e1 e3
      have ek := h.1.keyV
      obtain ⟨x, y⟩ := p
      have ek' : x = kV k := ek
      subst ek'
      exact ⟨(k, y) :: kvv, by rw [List.map_cons, h1], .cons ⟨rfl, h.2⟩ h2⟩
    unfold keysOf at e
    split at e
    · rename_i heq; cases heq
    · rename_i i v r heq
      cases heq
      cases q : keysOf ds with
      | none => rw [q] at e; cases e
      | some r => rw [q] at e; cases e; exact go (.inl i) r rfl q rfl
    · rename_i i v r heq
      cases heq
      cases q : keysOf ds with
      | none => rw [q] at e; cases e
      | some r => rw [q] at e; cases e; exact go (.inr i) r rfl q rfl
    · cases e
theorem dd_disp {X : Cx} {pos : Pos} {keys : List (Option Expr)} {values : List Expr} {trs : List (TE × TE)} {ws : List (WE × WE)} (h : DPs X pos keys values trs ws) (ht : trs.length ≤ 15 := by decide) (hall : keys.all (·.isSome) = true := by rfl) (hl : keys.length = values.length := by rfl) (h0 : keys ≠ [] := by exact fun h => nomatch h)
    (h15 : keys.length ≤ 15 := by decide) : DD X (.Dict keys values pos) (tDisp trs) (wDisp ws) :=
  ⟨pe_disp h.pps hall hl h0 h15, fun {sx H0 F0 F σ H η Q R} r hv k p hp => by
    have e0 := Ext2.newF (o := .dK []) r.base hp
    have nx : ¬ inSx sx p := fun z => by obtain ⟨o, q⟩ := r.base.ok.there z; rw [hp] at q; cases q
    have hF : F p = none := by
      cases z : F p with
      | none => rfl
      | some o => rw [r.base.le _ _ z] at hp; cases hp
    refine h.sem (r.ext e0) hv fun ds ps F1 H1 q hl e1 hps => ?_
    obtain ⟨kvs, ek, q'⟩ := q
    obtain ⟨kvv, rfl, h3⟩ := keys_dt hps ek
    have hb := e1.sH _ _ (upd_same (H := H) (a := p) (o := .dK [])) nx
    have hF1 : F1 p = none := by
      cases z : F1 p with
      | none => rfl
      | some u =>
        rcases e1.fr _ _ z with y | y | ⟨xs, rfl⟩
        · rw [hF] at y; cases y
        · rw [upd_same] at y; cases y
        · have y := e1.le _ _ z
          rw [hb] at y; cases y
    have l2 : kvv.length ≤ 15 := by
      have := Paired.length hps
      rw [List.length_map] at this
      omega
    refine ⟨hb, kvv, rfl, l2, ?_⟩
    have e2 := e0.trans e1
    refine k _ p F1 _ q' ⟨e2.sF, fun b o z n => ?_, fun b o z => ?_, e2.fr, ?_⟩ (.inl ⟨_, upd_same, merge_dt h3 .nil⟩) hF1 hp
    · rw [upd_ne (ne_of_none z hp)]; exact e2.sH _ _ z n
    · rw [upd_ne (ne_of_none z hF1)]; exact e2.le _ _ z
    · cases sx with
      | none => trivial
      | some pp =>
        obtain ⟨a1, b1⟩ := pp
        obtain ⟨n, cs, l, m, t, z1, z2, z⟩ := e2.ok
        exact ⟨n, cs, l, m, t, by rw [upd_ne (fun z => nx (.inl z.symm))]; exact z1, by rw [upd_ne (fun z => nx (.inr z.symm))]; exact z2, z⟩⟩
end W2

set_option Elab.async false
set_option linter.all false
set_option maxRecDepth 100000
/-! W2Y: over data alone: loops, lots of ints, dicts with lots as keys, sorting. -/
namespace W2
open PySem PySem.Spec PyProof.Rows L2 PySem.W

/-! ### loops -/
theorem lc_rel {α : Type} (e : α → D) (Rel : α → Option D → Prop) {g : WG} {tt : WT} {we : WE} {η : En} {Q : D → Prop} : ∀ (xs : List α) (acc : List D),
    (∀ x ∈ xs, ∀ R : Option D → Prop, (∀ o, Rel x o → R o) → g (e x) η fun η1 => tt η1 fun b => if b = true then we η1 fun y => R (some y) else R none) →
    acc.length + xs.length ≤ sizeLine → (∀ os, Paired Rel xs os → Q (.list (acc ++ os.filterMap id))) → lcGo g tt we η (xs.map e) acc Q
  | [], acc, _, _, q => by
    have q' := q [] .nil
    rw [List.filterMap_nil, List.append_nil] at q'
    exact q'
  | x :: r, acc, h, hl, q => by
    have hl' : acc.length + (r.length + 1) ≤ sizeLine := hl
    refine h x List.mem_cons_self (fun o => match o with | some y => acc.length < sizeLine ∧ lcGo g tt we η (r.map e) (acc ++ [y]) Q | none => lcGo g tt we η (r.map e) acc Q) fun o ho => ?_
    cases o with
    | none =>
      refine lc_rel e Rel r acc (fun y hy => h y (List.mem_cons_of_mem _ hy)) (by omega) fun os hos => ?_
      have q' := q (none :: os) (.cons ho hos)
      exact q'
    | some y =>
      refine ⟨by omega, lc_rel e Rel r (acc ++ [y]) (fun z hz => h z (List.mem_cons_of_mem _ hz)) (by rw [List.length_append]; show acc.length + 1 + r.length ≤ _; omega) fun os hos => ?_⟩
      have q' := q (some y :: os) (.cons ho hos)
      rw [List.append_assoc]
      exact q'
theorem paired_fn {α β : Type} {f : α → β} : ∀ {xs : List α} {ys : List β}, Paired (fun x y => y = f x) xs ys → ys = xs.map f
  | _, _, .nil => rfl
  | _, _, .cons h t => by rw [List.map_cons, h, paired_fn t]
theorem lc_fm {α : Type} (e : α → D) (f : α → Option D) {g : WG} {tt : WT} {we : WE} {η : En} {Q : D → Prop} (xs : List α)
    (h : ∀ x ∈ xs, ∀ R : Option D → Prop, R (f x) → g (e x) η fun η1 => tt η1 fun b => if b = true then we η1 fun y => R (some y) else R none)
    (hl : xs.length ≤ sizeLine) (q : Q (.list (xs.filterMap f))) : lcGo g tt we η (xs.map e) [] Q := by
  refine lc_rel e (fun x o => o = f x) xs [] (fun x hx R hR => h x hx R (hR _ rfl)) (by simpa using hl) fun os hos => ?_
  rw [paired_fn hos, List.nil_append, List.filterMap_map]
  exact q
/-- a loop, whatever it draws -/
inductive Steps {S α : Type} (St : S → α → S → Prop) : S → List α → S → Prop
  | nil {s : S} : Steps St s [] s
  | cons {s s1 s2 : S} {x : α} {r : List α} : St s x s1 → Steps St s1 r s2 → Steps St s (x :: r) s2
theorem for_rel {S α : Type} (e : α → D) (I : S → En → Prop) (St : S → α → S → Prop) {g : WG} {body : WS} {W : WEnds} : ∀ (xs : List α) (s : S) (η : En), I s η →
    (∀ x ∈ xs, ∀ s η, I s η → ∀ Kc : En → Prop, (∀ s' η', St s x s' → I s' η' → Kc η') → g (e x) η fun η1 => body { nx := Kc, rt := W.rt, bk := W.nx, ct := Kc } η1) →
    (∀ s' η', Steps St s xs s' → I s' η' → W.nx η') → forGo g body W (xs.map e) η
  | [], s, η, hi, _, hend => hend s η .nil hi
  | x :: r, s, η, hi, h, hend => h x List.mem_cons_self s η hi _ fun s' η' hs hi' =>
      for_rel e I St r s' η' hi' (fun y hy => h y (List.mem_cons_of_mem _ hy)) fun s2 η2 hst hi2 => hend s2 η2 (.cons hs hst) hi2
theorem steps_fold {S α : Type} {f : S → α → S} : ∀ {xs : List α} {s s' : S}, Steps (fun s x s' => s' = f s x) s xs s' → s' = xs.foldl f s
  | [], _, _, .nil => rfl
  | _ :: _, _, _, .cons h t => (steps_fold t).trans (by rw [h]; rfl)
theorem for_fold {S α : Type} (e : α → D) (I : S → En → Prop) (f : S → α → S) {g : WG} {body : WS} {W : WEnds} (xs : List α) (s : S) (η : En) (hi : I s η)
    (h : ∀ x ∈ xs, ∀ s η, I s η → ∀ Kc : En → Prop, (∀ η', I (f s x) η' → Kc η') → g (e x) η fun η1 => body { nx := Kc, rt := W.rt, bk := W.nx, ct := Kc } η1)
    (hend : ∀ η', I (xs.foldl f s) η' → W.nx η') : forGo g body W (xs.map e) η :=
  for_rel e I (fun s x s' => s' = f s x) xs s η hi (fun x hx s η hi Kc hk => h x hx s η hi Kc fun η' hi' => hk _ η' rfl hi') fun s' η' hst hi' => hend η' (by rw [← steps_fold hst]; exact hi')

/-! ### lots of ints, pairs of a lot and a number -/
def lotD (l : List Int) : D := .tuple (l.map .int)
def prD (p : List Int × Int) : D := .tuple [lotD p.1, .int p.2]
def rsD (s : List (List Int × Int)) : D := .tuple (s.map prD)
def mpE (p : List Int × Int) : D × D := (lotD p.1, .int p.2)
def mpD (m : List (List Int × Int)) : D := .dict (m.map mpE)
theorem eqvAll_ints : ∀ (a b : List Int), PyData.eqvAll (a.map .int) (b.map .int) = decide (a = b)
  | [], [] => rfl
  | [], _ :: _ => rfl
  | _ :: _, [] => rfl
  | x :: a, y :: b => by
    show (PyData.eqv (.int x) (.int y) && PyData.eqvAll (a.map .int) (b.map .int)) = _
    rw [eqvAll_ints a b]
    show ((x == y) && _) = _
    by_cases e : x = y
    · subst e
      by_cases e' : a = b
      · subst e'; simp
      · rw [decide_eq_false e', decide_eq_false (fun z => e' (List.cons.inj z).2), Bool.and_false]
    · rw [decide_eq_false (fun z => e (List.cons.inj z).1), beq_eq_false_iff_ne.mpr e, Bool.false_and]
theorem eqv_lot (a b : List Int) : PyData.eqv (lotD a) (lotD b) = decide (a = b) := eqvAll_ints a b
theorem eqv_pr (p q : List Int × Int) : PyData.eqv (prD p) (prD q) = decide (p = q) := by
  show (PyData.eqv (lotD p.1) (lotD q.1) && ((p.2 == q.2) && true)) = _
  rw [eqv_lot, Bool.and_true]
  by_cases e : p.1 = q.1
  · by_cases e' : p.2 = q.2
    · rw [decide_eq_true e, beq_iff_eq.mpr e', decide_eq_true (Prod.ext e e')]; rfl
    · rw [beq_eq_false_iff_ne.mpr e', Bool.and_false, decide_eq_false (fun z => e' (by rw [z]))]
  · rw [decide_eq_false e, Bool.false_and, decide_eq_false (fun z => e (by rw [z]))]
theorem eqvAll_map {α : Type} [DecidableEq α] {e : α → D} (h : ∀ a b, PyData.eqv (e a) (e b) = decide (a = b)) : ∀ (a b : List α), PyData.eqvAll (a.map e) (b.map e) = decide (a = b)
  | [], [] => rfl
  | [], _ :: _ => rfl
  | _ :: _, [] => rfl
  | x :: a, y :: b => by
    show (PyData.eqv (e x) (e y) && PyData.eqvAll (a.map e) (b.map e)) = _
    rw [eqvAll_map h a b, h]
    by_cases c : x = y
    · subst c
      by_cases e' : a = b
      · subst e'; simp
      · rw [decide_eq_false e', decide_eq_false (fun z => e' (List.cons.inj z).2), Bool.and_false]
    · rw [decide_eq_false (fun z => c (List.cons.inj z).1), decide_eq_false c, Bool.false_and]
theorem eqv_rs (s t : List (List Int × Int)) : PyData.eqv (rsD s) (rsD t) = decide (s = t) := eqvAll_map eqv_pr s t
/-! what can be laid, compared -/
theorem layAll_map {α : Type} {e : α → D} (h : ∀ a, (e a).canLay0 = true) : ∀ (l : List α), PyData.canLayAll0 (l.map e) = true
  | [] => rfl
  | x :: r => by
    show ((e x).canLay0 && PyData.canLayAll0 (r.map e)) = true
    rw [h, layAll_map h r]; rfl
theorem depthAll_map {α : Type} {e : α → D} {n : Nat} (h : ∀ a, (e a).depth ≤ n) : ∀ (l : List α), PyData.depthAll (l.map e) ≤ n
  | [] => Nat.zero_le _
  | x :: r => by
    show max (e x).depth (PyData.depthAll (r.map e)) ≤ n
    exact Nat.max_le.mpr ⟨h x, depthAll_map h r⟩
theorem lay_lot (l : List Int) : (lotD l).canLay0 = true := layAll_map (e := PyData.int) (fun _ => rfl) l
theorem depth_lot (l : List Int) : (lotD l).depth ≤ 1 := Nat.succ_le_succ (depthAll_map (e := PyData.int) (fun _ => Nat.le_refl 0) l)
theorem lay_pr (p : List Int × Int) : (prD p).canLay0 = true := by
  show ((lotD p.1).canLay0 && (true && true)) = true
  rw [lay_lot]; rfl
theorem depth_pr (p : List Int × Int) : (prD p).depth ≤ 2 := by
  show max (lotD p.1).depth (max 0 0) + 1 ≤ 2
  have := depth_lot p.1
  omega
theorem lay_rs (s : List (List Int × Int)) : (rsD s).canLay0 = true := layAll_map lay_pr s
theorem depth_rs (s : List (List Int × Int)) : (rsD s).depth ≤ 3 := Nat.succ_le_succ (depthAll_map depth_pr s)
theorem shaped_of {d : D} (h1 : d.canLay0 = true) (h2 : d.depth ≤ 64) : SeqAt.shaped d = true := by
  unfold SeqAt.shaped
  rw [h1, decide_eq_true h2]; rfl
theorem shaped_lot (l : List Int) : SeqAt.shaped (lotD l) = true := shaped_of (lay_lot l) (Nat.le_trans (depth_lot l) (by decide))
theorem shaped_rs (s : List (List Int × Int)) : SeqAt.shaped (rsD s) = true := shaped_of (lay_rs s) (Nat.le_trans (depth_rs s) (by decide))
theorem eqOk_of {x y : D} (h1 : SeqAt.shaped x = true) (h2 : SeqAt.shaped y = true) : eqOk x y = true := by
  unfold eqOk
  cases x <;> cases y <;> simp_all
theorem alikeAll_map {α : Type} {e : α → D} (h : ∀ a b, alike (e a) (e b) = true) : ∀ (a b : List α), alikeAll (a.map e) (b.map e) = true
  | [], _ => by simp [alikeAll]
  | _ :: _, [] => by simp [alikeAll]
  | x :: a, y :: b => by
    show alikeAll (e x :: a.map e) (e y :: b.map e) = true
    rw [alikeAll, h, alikeAll_map h a b]; rfl
theorem alike_lot (a b : List Int) : alike (lotD a) (lotD b) = true := by
  show alike (.tuple _) (.tuple _) = true
  rw [alike]
  exact alikeAll_map (fun _ _ => by rw [alike]) a b
theorem alike_pr (p q : List Int × Int) : alike (prD p) (prD q) = true := by
  show alike (.tuple _) (.tuple _) = true
  rw [alike, alikeAll, alike_lot, alikeAll, alike, alikeAll]; rfl
theorem sortOk_map {α : Type} {e : α → D} (l : List α) (h1 : ∀ a b, alike (e a) (e b) = true) (h2 : ∀ a, isTup (e a) = true) (h3 : ∀ a, (e a).depth ≤ 64) : sortOk (l.map e) = true := by
  unfold sortOk
  rw [Bool.and_eq_true, Bool.and_eq_true]
  refine ⟨⟨?_, ?_⟩, ?_⟩
  · rw [List.all_eq_true]
    intro d hd
    rw [List.all_eq_true]
    intro d' hd'
    obtain ⟨a, _, rfl⟩ := List.mem_map.mp hd
    obtain ⟨b, _, rfl⟩ := List.mem_map.mp hd'
    exact h1 a b
  · rw [Bool.or_eq_true]
    refine .inl ?_
    rw [List.all_eq_true]
    intro d hd
    obtain ⟨a, _, rfl⟩ := List.mem_map.mp hd
    exact h2 a
  · rw [List.all_eq_true]
    intro d hd
    obtain ⟨a, _, rfl⟩ := List.mem_map.mp hd
    exact decide_eq_true (h3 a)
theorem sortOk_pr (l : List (List Int × Int)) : sortOk (l.map prD) = true := sortOk_map l alike_pr (fun _ => rfl) fun p => Nat.le_trans (depth_pr p) (by decide)
theorem sortOk_lot (l : List (List Int)) : sortOk (l.map lotD) = true := sortOk_map l alike_lot (fun _ => rfl) fun p => Nat.le_trans (depth_lot p) (by decide)
/-! the orders -/
def leP (p q : List Int × Int) : Bool := dataLe false id (prD p) (prD q)
def leL (p q : List Int) : Bool := dataLe false id (lotD p) (lotD q)
theorem leP_total : TotalLe leP := ⟨fun a b c h1 h2 => (sortLe_total (listOrd itemOrd) false keyToks).trans (prD a) (prD b) (prD c) h1 h2, fun a b => (sortLe_total (listOrd itemOrd) false keyToks).total (prD a) (prD b)⟩
theorem leL_total : TotalLe leL := ⟨fun a b c h1 h2 => (sortLe_total (listOrd itemOrd) false keyToks).trans (lotD a) (lotD b) (lotD c) h1 h2, fun a b => (sortLe_total (listOrd itemOrd) false keyToks).total (lotD a) (lotD b)⟩
theorem sortD_pr (l : List (List Int × Int)) : sortD (l.map prD) = (l.mergeSort leP).map prD := (sort_maps (r := leP) (s := dataLe false id) prD fun a _ b _ => rfl).symm
theorem sortD_lot (l : List (List Int)) : sortD (l.map lotD) = (l.mergeSort leL).map lotD := (sort_maps (r := leL) (s := dataLe false id) lotD fun a _ b _ => rfl).symm
theorem le_toks {x y : D} (h1 : dataLe false id x y = true) (h2 : dataLe false id y x = true) : keyToks x = keyToks y := by
  have e1 : (!(listOrd itemOrd).blt (keyToks y) (keyToks x)) = true := h1
  have e2 : (!(listOrd itemOrd).blt (keyToks x) (keyToks y)) = true := h2
  rw [Bool.not_eq_true'] at e1 e2
  exact (listOrd itemOrd).total _ _ e2 e1
theorem eq_of_toks {x y : D} (ha : alike x y = true) (h : keyToks x = keyToks y) : PyData.eqv x y = true := by
  cases q : PyData.eqv x y with
  | true => rfl
  | false =>
    have t := (toks_eqv x y ha).2 q [] [.inl 0]
    rw [h] at t
    have irr : PyProof.Rows.lexLt itemOrd (keyToks y) (keyToks y) = false := (listOrd itemOrd).irrefl (keyToks y)
    rw [irr, lex_pre] at t
    cases t
theorem leP_anti {p q : List Int × Int} (h1 : leP p q = true) (h2 : leP q p = true) : p = q := by
  have e := eq_of_toks (alike_pr p q) (le_toks h1 h2)
  rw [eqv_pr] at e
  exact of_decide_eq_true e
theorem leL_anti {p q : List Int} (h1 : leL p q = true) (h2 : leL q p = true) : p = q := by
  have e := eq_of_toks (alike_lot p q) (le_toks h1 h2)
  rw [eqv_lot] at e
  exact of_decide_eq_true e
theorem leP_key {p q : List Int × Int} (h : leL p.1 q.1 = true) (hn : p.1 ≠ q.1) : leP p q = true := by
  have h' : (!dataLt (lotD q.1) (lotD p.1)) = true := h
  show (!dataLt (prD q) (prD p)) = true
  unfold prD
  rw [dataLt_pair (alike_lot _ _) (by rw [alike]), eqv_lot, decide_eq_false (fun z => hn z.symm)]
  exact h'
theorem sort_of_perm {α : Type} {le : α → α → Bool} (ht : TotalLe le) (ha : ∀ a b, le a b = true → le b a = true → a = b) {l m : List α} (hp : l.Perm m) : l.mergeSort le = m.mergeSort le :=
  List.Perm.eq_of_pairwise (le := fun a b => le a b = true) (fun a b _ _ => ha a b) (sort_pairwise ht l) (sort_pairwise ht m) (((List.mergeSort_perm l le).trans hp).trans (List.mergeSort_perm m le).symm)
end W2
namespace W2
open PySem PySem.Spec PyProof.Rows L2 PySem.W
/-- a loop whose state grows by at most w x at x -/
theorem for_foldW {S α : Type} (e : α → D) (I : S → En → Prop) (f : S → α → S) (c : S → Nat) (wt : α → Nat) (hc : ∀ s x, c (f s x) ≤ c s + wt x) {B : Nat} {g : WG} {body : WS} {W : WEnds} : ∀ (xs : List α) (s : S) (η : En), I s η → c s + (xs.map wt).sum ≤ B →
    (∀ x ∈ xs, ∀ s η, I s η → c s + wt x ≤ B → ∀ Kc : En → Prop, (∀ η', I (f s x) η' → Kc η') → g (e x) η fun η1 => body { nx := Kc, rt := W.rt, bk := W.nx, ct := Kc } η1) →
    (∀ η', I (xs.foldl f s) η' → W.nx η') → forGo g body W (xs.map e) η
  | [], s, η, hi, _, _, hend => hend η hi
  | x :: r, s, η, hi, hB, h, hend => by
    rw [List.map_cons, List.sum_cons] at hB
    have h1 := hc s x
    exact h x List.mem_cons_self s η hi (by omega) _ fun η' hi' => for_foldW e I f c wt hc r (f s x) η' hi' (by omega) (fun y hy => h y (List.mem_cons_of_mem _ hy)) hend
/-! ### ints -/
def sortI (l : List Int) : List Int := l.mergeSort fun a b => decide (a ≤ b)
theorem sortD_int (l : List Int) : sortD (l.map .int) = (sortI l).map .int := by
  unfold sortD sortI
  exact (sort_maps (r := fun a b : Int => decide (a ≤ b)) (s := dataLe false id) PyData.int fun a _ b _ => (congrFun (congrFun (dataLe_int (fun x : Int => x)) a) b).symm).symm
theorem sortOk_int (l : List Int) : sortOk (l.map .int) = true := by
  unfold sortOk
  rw [Bool.and_eq_true, Bool.and_eq_true]
  refine ⟨⟨?_, ?_⟩, ?_⟩
  · rw [List.all_eq_true]
    intro d hd
    rw [List.all_eq_true]
    intro d' hd'
    obtain ⟨a, _, rfl⟩ := List.mem_map.mp hd
    obtain ⟨b, _, rfl⟩ := List.mem_map.mp hd'
    rw [alike]
  · rw [Bool.or_eq_true]
    refine .inr ?_
    rw [List.all_eq_true]
    intro d hd
    obtain ⟨a, _, rfl⟩ := List.mem_map.mp hd
    rfl
  · rw [List.all_eq_true]
    intro d hd
    obtain ⟨a, _, rfl⟩ := List.mem_map.mp hd
    exact decide_eq_true (Nat.zero_le _)
theorem lay_ints (l : List Int) : PyData.canLayAll0 (l.map .int) = true := layAll_map (e := PyData.int) (fun _ => rfl) l
theorem any_int (l : List Int) (x : Int) : (l.map PyData.int).any (fun z => PyData.eqv z (.int x)) = decide (x ∈ l) := by
  rw [List.any_map]
  induction l with
  | nil => simp
  | cons y r ih =>
    rw [List.any_cons, ih]
    show ((y == x) || _) = _
    by_cases e : y = x
    · subst e; simp
    · rw [beq_eq_false_iff_ne.mpr e, Bool.false_or]
      by_cases h : x ∈ r
      · rw [decide_eq_true h, decide_eq_true (List.mem_cons_of_mem _ h)]
      · rw [decide_eq_false h, decide_eq_false (fun z => (List.mem_cons.mp z).elim (fun q => e q.symm) h)]
theorem in_lot {neg : Bool} {x : Int} {l : List Int} {Q : D → Prop} (h : Q (.bool (if neg then !decide (x ∈ l) else decide (x ∈ l)))) : gInA neg (.int x) (lotD l) Q := by
  refine ⟨rfl, shaped_lot l, ?_⟩
  rw [any_int]
  exact h
theorem filterMap_some {α β : Type} (p : α → Bool) (f : α → β) : ∀ (l : List α), l.filterMap (fun x => if p x = true then some (f x) else none) = (l.filter p).map f
  | [] => rfl
  | x :: r => by
    rw [List.filterMap_cons, List.filter_cons, filterMap_some p f r]
    cases h : p x
    · rfl
    · rfl
end W2

set_option Elab.async false
set_option linter.all false
set_option maxRecDepth 100000
/-! W2Z: numbers at lots: what stands at a key, what is told. -/
namespace W2
open PySem PySem.Spec PyProof.Rows L2 PySem.W

abbrev LI := List Int × Int
def val (m : List LI) (k : List Int) : Int := ((m.find? fun p => decide (p.1 = k)).map (·.2)).getD 0
def put (m : List LI) (k : List Int) (v : Int) : List LI := if (m.any fun p => decide (p.1 = k)) = true then m.map (fun p => if p.1 = k then (p.1, v) else p) else m ++ [(k, v)]
def Keys (m : List LI) : Prop := (m.map (·.1)).Nodup
theorem keyOk_lot (l : List Int) : keyOk (lotD l) = true := by
  show (l.map PyData.int).all flatKey = true
  rw [List.all_map, List.all_eq_true]
  intro _ _; rfl
theorem kindOk_mp (m : List LI) (k : List Int) : kindOk (m.map mpE) (lotD k) = true := by
  unfold kindOk
  rw [List.all_map, List.all_eq_true]
  intro _ _; rfl
theorem dGet_mp (k : List Int) : ∀ (m : List LI), dGet (m.map mpE) (lotD k) = (m.find? fun p => decide (p.1 = k)).map fun p => .int p.2
  | [] => rfl
  | p :: r => by
    have ih := dGet_mp k r
    unfold dGet at ih ⊢
    rw [List.map_cons, List.find?_cons, List.find?_cons, show PyData.eqv (mpE p).1 (lotD k) = decide (p.1 = k) from eqv_lot p.1 k]
    by_cases e : p.1 = k
    · rw [decide_eq_true e]; rfl
    · rw [decide_eq_false e]; exact ih
theorem dGet_val (m : List LI) (k : List Int) : (dGet (m.map mpE) (lotD k)).getD (.int 0) = .int (val m k) := by
  rw [dGet_mp]
  unfold val
  cases m.find? fun p => decide (p.1 = k) <;> rfl
theorem dPut_mp (m : List LI) (k : List Int) (v : Int) : dPut (m.map mpE) (lotD k) (.int v) = (put m k v).map mpE := by
  unfold dPut put
  have e1 : ((m.map mpE).any fun e => PyData.eqv e.1 (lotD k)) = m.any fun p => decide (p.1 = k) := by
    rw [List.any_map]
    congr 1
    funext p
    exact eqv_lot p.1 k
  rw [e1]
  by_cases c : (m.any fun p => decide (p.1 = k)) = true
  · rw [if_pos c, if_pos c, List.map_map, List.map_map]
    refine List.map_congr_left fun p _ => ?_
    show (if PyData.eqv (lotD p.1) (lotD k) = true then (lotD p.1, PyData.int v) else mpE p) = mpE (if p.1 = k then (p.1, v) else p)
    rw [eqv_lot]
    by_cases e : p.1 = k
    · rw [decide_eq_true e, if_pos rfl, if_pos e]; rfl
    · rw [decide_eq_false e, if_neg Bool.false_ne_true, if_neg e]
  · rw [if_neg c, if_neg c, List.map_append]; rfl
theorem val_nil (k : List Int) : val [] k = 0 := rfl
theorem val_cons (p : LI) (r : List LI) (k : List Int) : val (p :: r) k = if p.1 = k then p.2 else val r k := by
  unfold val
  rw [List.find?_cons]
  by_cases e : p.1 = k
  · rw [decide_eq_true e, if_pos e]; rfl
  · rw [decide_eq_false e, if_neg e]
theorem val_none {k : List Int} : ∀ {m : List LI}, k ∉ m.map (·.1) → val m k = 0
  | [], _ => rfl
  | p :: r, h => by
    rw [val_cons, if_neg (fun z => h (by rw [← z]; exact List.mem_cons_self)), val_none fun z => h (List.mem_cons_of_mem _ z)]
theorem val_mem : ∀ {m : List LI}, Keys m → ∀ {p : LI}, p ∈ m → val m p.1 = p.2
  | q :: r, h, p, hp => by
    have h' := List.nodup_cons.mp (show ((q :: r).map (·.1)).Nodup from h)
    rw [val_cons]
    rcases List.mem_cons.mp hp with e | hp
    · subst e; rw [if_pos rfl]
    · rw [if_neg (fun z => h'.1 (by show q.1 ∈ _; rw [z]; exact List.mem_map_of_mem hp))]
      exact val_mem h'.2 hp
theorem mem_val : ∀ {m : List LI} {k : List Int}, val m k ≠ 0 → (k, val m k) ∈ m
  | [], _, h => absurd rfl h
  | q :: r, k, h => by
    rw [val_cons] at h ⊢
    by_cases e : q.1 = k
    · rw [if_pos e, ← e]; exact List.mem_cons_self
    · rw [if_neg e] at h ⊢
      exact List.mem_cons_of_mem _ (mem_val h)
theorem any_key {m : List LI} {k : List Int} : (m.any fun p => decide (p.1 = k)) = true ↔ k ∈ m.map (·.1) := by
  rw [List.any_eq_true, List.mem_map]
  constructor
  · rintro ⟨p, hp, e⟩; exact ⟨p, hp, of_decide_eq_true e⟩
  · rintro ⟨p, hp, e⟩; exact ⟨p, hp, decide_eq_true e⟩
theorem over_keys (k : List Int) (v : Int) : ∀ (m : List LI), (m.map fun p => if p.1 = k then (p.1, v) else p).map (·.1) = m.map (·.1)
  | [] => rfl
  | p :: r => by
    rw [List.map_cons, List.map_cons, List.map_cons, over_keys k v r]
    by_cases e : p.1 = k
    · rw [if_pos e]
    · rw [if_neg e]
theorem val_over (k : List Int) (v : Int) (k' : List Int) : ∀ (m : List LI), k ∈ m.map (·.1) → val (m.map fun p => if p.1 = k then (p.1, v) else p) k' = if k' = k then v else val m k'
  | [], h => by cases h
  | p :: r, h => by
    rw [List.map_cons, val_cons, val_cons]
    by_cases e : p.1 = k
    · rw [if_pos e]
      show (if p.1 = k' then v else _) = _
      by_cases e' : k' = k
      · rw [if_pos (e.trans e'.symm), if_pos e']
      · have ne : p.1 ≠ k' := fun z => e' (z.symm.trans e)
        rw [if_neg ne, if_neg e', if_neg ne]
        by_cases hr : k ∈ r.map (·.1)
        · rw [val_over k v k' r hr, if_neg e']
        · have : (r.map fun p => if p.1 = k then (p.1, v) else p) = r := by
            have t : ∀ q ∈ r, (if q.1 = k then (q.1, v) else q) = q := fun q hq => if_neg fun z => hr (by rw [← z]; exact List.mem_map_of_mem hq)
            rw [List.map_congr_left t, List.map_id']
          rw [this]
    · rw [if_neg e]
      have hr : k ∈ r.map (·.1) := by
        rcases List.mem_cons.mp h with z | z
        · exact absurd z.symm e
        · exact z
      by_cases c : p.1 = k'
      · rw [if_pos c, if_pos c, if_neg (fun z => e (c.trans z))]
      · rw [if_neg c, if_neg c]
        exact val_over k v k' r hr
theorem val_snoc (k : List Int) (v : Int) (k' : List Int) : ∀ (m : List LI), k ∉ m.map (·.1) → val (m ++ [(k, v)]) k' = if k' = k then v else val m k'
  | [], _ => by
    rw [List.nil_append, val_cons]
    by_cases e : k = k'
    · rw [if_pos e, if_pos e.symm]
    · rw [if_neg e, if_neg (fun z => e z.symm)]
  | p :: r, h => by
    rw [List.cons_append, val_cons, val_cons]
    have hk : p.1 ≠ k := fun z => h (by rw [← z]; exact List.mem_cons_self)
    by_cases c : p.1 = k'
    · rw [if_pos c, if_pos c, if_neg (fun z => hk (c.trans z))]
    · rw [if_neg c, if_neg c]
      exact val_snoc k v k' r fun z => h (List.mem_cons_of_mem _ z)
theorem val_put (m : List LI) (k : List Int) (v : Int) (k' : List Int) : val (put m k v) k' = if k' = k then v else val m k' := by
  unfold put
  by_cases c : (m.any fun p => decide (p.1 = k)) = true
  · rw [if_pos c]; exact val_over k v k' m (any_key.mp c)
  · rw [if_neg c]; exact val_snoc k v k' m fun z => c (any_key.mpr z)
theorem put_keys {m : List LI} {k : List Int} {v : Int} (h : Keys m) : Keys (put m k v) := by
  unfold put Keys
  by_cases c : (m.any fun p => decide (p.1 = k)) = true
  · rw [if_pos c, over_keys]; exact h
  · rw [if_neg c, List.map_append]
    refine List.nodup_append.mpr ⟨h, by simp, fun a ha b hb => ?_⟩
    have e : b = k := by simpa using hb
    subst e
    intro z
    subst z
    exact c (any_key.mpr ha)
theorem put_length (m : List LI) (k : List Int) (v : Int) : (put m k v).length ≤ m.length + 1 := by
  unfold put
  split
  · rw [List.length_map]; omega
  · rw [List.length_append]; exact Nat.le_refl _

/-! ### what is told -/
def nz (m : List LI) : List LI := m.filter fun p => decide (p.2 ≠ 0)
def told (m : List LI) : List LI := (nz m).mergeSort leP
theorem Keys.nodup : ∀ {m : List LI}, Keys m → m.Nodup
  | [], _ => List.nodup_nil
  | p :: r, h => by
    have h' := List.nodup_cons.mp (show ((p :: r).map (·.1)).Nodup from h)
    exact List.nodup_cons.mpr ⟨fun z => h'.1 (List.mem_map_of_mem z), Keys.nodup h'.2⟩
theorem Keys.filter {m : List LI} (h : Keys m) (f : LI → Bool) : Keys (m.filter f) := by
  unfold Keys at h ⊢
  exact List.Nodup.sublist (List.Sublist.map _ (List.filter_sublist)) h
theorem Keys.perm {m n : List LI} (h : Keys m) (p : m.Perm n) : Keys n := (p.map _).nodup_iff.mp h
theorem told_perm (m : List LI) : (told m).Perm (nz m) := List.mergeSort_perm _ _
theorem told_keys {m : List LI} (h : Keys m) : Keys (told m) := (h.filter _).perm (told_perm m).symm
theorem mem_told {m : List LI} {p : LI} : p ∈ told m ↔ p ∈ m ∧ p.2 ≠ 0 := by
  rw [(told_perm m).mem_iff]
  unfold nz
  rw [List.mem_filter, decide_eq_true_iff]
theorem val_told {m : List LI} (h : Keys m) (k : List Int) : val (told m) k = val m k := by
  by_cases c : val m k = 0
  · rw [c]
    by_cases d : val (told m) k = 0
    · exact d
    · have h1 := mem_told.mp (mem_val d)
      have h2 := val_mem h h1.1
      exact absurd (h2.symm.trans c) h1.2
  · have h1 := mem_val c
    exact val_mem (told_keys h) (mem_told.mpr ⟨h1, c⟩)
theorem told_ext {m n : List LI} (hm : Keys m) (hn : Keys n) (h : ∀ k, val m k = val n k) : told m = told n := by
  have go : ∀ {a b : List LI}, Keys a → Keys b → (∀ k, val a k = val b k) → ∀ p, p ∈ nz a → p ∈ nz b := fun {a b} ha hb e p hp => by
    unfold nz at hp ⊢
    rw [List.mem_filter, decide_eq_true_iff] at hp ⊢
    have e1 := val_mem ha hp.1
    rw [e] at e1
    have e2 : val b p.1 ≠ 0 := by rw [e1]; exact hp.2
    have e3 := mem_val e2
    rw [e1] at e3
    exact ⟨e3, hp.2⟩
  have p : (nz m).Perm (nz n) := (List.perm_ext_iff_of_nodup (hm.filter _).nodup (hn.filter _).nodup).mpr fun p => ⟨go hm hn h p, go hn hm (fun k => (h k).symm) p⟩
  exact sort_of_perm leP_total (fun a b => leP_anti) p
/-- as the laws tell it: by the sorted keys -/
def ltold (m : List LI) : List LI := ((m.map (·.1)).mergeSort leL).filterMap fun k => if val m k ≠ 0 then some (k, val m k) else none
theorem nz_keys {m : List LI} : ∀ {r : List LI}, (∀ p ∈ r, val m p.1 = p.2) → (r.map (·.1)).filterMap (fun k => if val m k ≠ 0 then some (k, val m k) else none) = nz r
  | [], _ => rfl
  | p :: r, h => by
    have e := h p List.mem_cons_self
    have ih := nz_keys fun q hq => h q (List.mem_cons_of_mem _ hq)
    unfold nz at ih ⊢
    rw [List.map_cons, List.filterMap_cons, List.filter_cons, e]
    by_cases c : p.2 = 0
    · rw [if_neg (fun z => z c), decide_eq_false (fun z => z c)]
      exact ih
    · rw [if_pos c, decide_eq_true c, if_pos rfl, ← ih]
theorem ltold_eq {m : List LI} (h : Keys m) : ltold m = told m := by
  refine List.Perm.eq_of_pairwise (le := fun a b => leP a b = true) (fun a b _ _ => leP_anti) ?_ (sort_pairwise leP_total _) ?_
  · unfold ltold
    have nd : ((m.map (·.1)).mergeSort leL).Nodup := (List.mergeSort_perm _ _).nodup_iff.mpr h
    have pw : ((m.map (·.1)).mergeSort leL).Pairwise fun a b => leL a b = true ∧ a ≠ b := (sort_pairwise leL_total _).and (List.nodup_iff_pairwise_ne.mp nd)
    rw [List.pairwise_filterMap]
    refine pw.imp fun {a b} hab x hx y hy => ?_
    have ex : x = (a, val m a) := by
      by_cases c : val m a ≠ 0
      · rw [if_pos c] at hx; exact (Option.some.inj hx).symm
      · rw [if_neg c] at hx; cases hx
    have ey : y = (b, val m b) := by
      by_cases c : val m b ≠ 0
      · rw [if_pos c] at hy; exact (Option.some.inj hy).symm
      · rw [if_neg c] at hy; cases hy
    subst ex ey
    exact leP_key hab.1 hab.2
  · refine List.Perm.trans ?_ (told_perm m).symm
    unfold ltold
    refine ((List.mergeSort_perm _ _).filterMap _).trans ?_
    rw [nz_keys fun p hp => val_mem h hp]
end W2

set_option Elab.async false
set_option linter.all false
set_option maxRecDepth 100000
/-! W2AA: data tools shared by the laws: loops over a range, frames, what is shown, sorted ints. -/
namespace W2
open PySem PySem.Spec PyProof.Rows L2 PySem.W
theorem for_ix (e : Nat → W2.D) (I : Nat → En → Prop) {g : WG} {body : WS} {W : WEnds} {n : Nat} (h : ∀ i, i < n → ∀ η, I i η → ∀ Kc : En → Prop, (∀ η', I (i + 1) η' → Kc η') → g (e i) η fun η1 => body { nx := Kc, rt := W.rt, bk := W.nx, ct := Kc } η1)
    (hend : ∀ η, I n η → W.nx η) {η : En} (h0 : I 0 η) : forGo g body W ((List.range n).map e) η := by
  rw [List.range_eq_range']
  have go : ∀ (m i : Nat) (η : En), i + m = n → I i η → forGo g body W ((List.range' i m).map e) η := by
    intro m
    induction m with
    | zero =>
      intro i η e hi
      have : i = n := by omega
      subst this
      exact hend η hi
    | succ m ih =>
      intro i η e hi
      exact h i (by omega) η hi _ fun η' hi' => ih (i + 1) η' (by omega) hi'
  exact go n 0 η (by omega) h0
def rdD (p : Int × Int) : W2.D := .tuple [.int p.1, .int p.2]
def frD (n : Int) (roads : List (Int × Int)) : W2.D := .tuple [.int n, .tuple (roads.map rdD)]
theorem filterMap_nil {α β : Type} {f : α → Option β} : ∀ {l : List α}, l.filterMap f = [] ↔ ∀ x ∈ l, f x = none
  | [] => by simp
  | x :: r => by
    rw [List.filterMap_cons]
    cases h : f x with
    | none =>
      show r.filterMap f = [] ↔ _
      rw [filterMap_nil]
      simp [h]
    | some y =>
      show y :: r.filterMap f = [] ↔ _
      simp [h]
theorem fold_len {α : Type} {f : List LI → α → List LI} {n : Nat} (h : ∀ m x, (f m x).length ≤ m.length + n) : ∀ (l : List α) (m : List LI), (l.foldl f m).length ≤ m.length + l.length * n
  | [], m => by simp
  | x :: r, m => by
    have h1 := fold_len h r (f m x)
    have h2 := h m x
    rw [List.foldl_cons, List.length_cons, Nat.succ_mul]
    omega
theorem sum_const {α : Type} (n : Nat) : ∀ (l : List α), (l.map fun _ => n).sum = l.length * n
  | [] => by simp
  | _ :: r => by rw [List.map_cons, List.sum_cons, sum_const n r, List.length_cons, Nat.succ_mul]; omega
theorem le_line {n : Nat} (h : n ≤ 1000000) : n ≤ sizeLine := Nat.le_trans h (by rw [sizeLine_eq]; decide)
theorem sum_one {α : Type} : ∀ (l : List α), (l.map fun _ => 1).sum = l.length
  | [] => rfl
  | _ :: r => by rw [List.map_cons, List.sum_cons, sum_one r, List.length_cons]; omega
theorem perm_of_map {α β : Type} {f : α → β} {l1 l2 : List β} (h : l1.Perm l2) : ∀ (s : List α), l2 = s.map f → ∃ t : List α, t.Perm s ∧ l1 = t.map f := by
  induction h with
  | nil => intro s e; cases s with | nil => exact ⟨[], .refl _, rfl⟩ | cons _ _ => cases e
  | cons x _ ih =>
    intro s e
    cases s with
    | nil => cases e
    | cons a r =>
      rw [List.map_cons] at e
      obtain ⟨e1, e2⟩ := List.cons.inj e
      obtain ⟨t, h1, h2⟩ := ih r e2
      exact ⟨a :: t, h1.cons a, by rw [List.map_cons, ← h2, e1]⟩
  | swap x y l =>
    intro s e
    cases s with
    | nil => cases e
    | cons a r =>
      cases r with
      | nil => rw [List.map_cons, List.map_nil] at e; cases (List.cons.inj e).2
      | cons b r =>
        rw [List.map_cons, List.map_cons] at e
        obtain ⟨e1, e2⟩ := List.cons.inj e
        obtain ⟨e3, e4⟩ := List.cons.inj e2
        exact ⟨b :: a :: r, .swap _ _ _, by rw [List.map_cons, List.map_cons, ← e1, ← e3, ← e4]⟩
  | trans _ _ ih1 ih2 =>
    intro s e
    obtain ⟨t, h1, h2⟩ := ih2 s e
    obtain ⟨u, h3, h4⟩ := ih1 t h2
    exact ⟨u, h3.trans h1, h4⟩
def Good (n : Int) (s : List (Int × Int)) : Prop := ∀ p ∈ s, (0 ≤ p.1 ∧ p.1 < n) ∧ 0 ≤ p.2 ∧ p.2 < n
theorem int_at {l : List Int} {i : Int} (h0 : 0 ≤ i) (h1 : i < l.length) : ∃ x ∈ l, L2.atI (l.map PyData.int) i = some (.int x) := by
  have hi : i.toNat < l.length := by omega
  refine ⟨l[i.toNat], List.getElem_mem _, ?_⟩
  unfold L2.atI ixN
  rw [List.length_map, if_pos h0, if_pos h1]
  show (l.map PyData.int)[i.toNat]? = _
  rw [List.getElem?_map, List.getElem?_eq_getElem hi]; rfl
theorem flip_out {n : Int} : ∀ {t : List (Int × Int)} {os : List (Option W2.D)}, Paired (fun p o => o = some (rdD p) ∨ o = some (rdD (p.2, p.1))) t os → Good n t → ∃ u : List (Int × Int), os.filterMap id = u.map rdD ∧ u.length = t.length ∧ Good n u
  | _, _, .nil, _ => ⟨[], rfl, rfl, fun _ h => by cases h⟩
  | _, _, .cons (a := p) h r, hg => by
    obtain ⟨u, h1, h2, h3⟩ := flip_out r fun q hq => hg q (List.mem_cons_of_mem _ hq)
    have hp := hg p List.mem_cons_self
    rcases h with rfl | rfl
    · refine ⟨p :: u, ?_, by rw [List.length_cons, List.length_cons, h2], fun q hq => ?_⟩
      · rw [List.filterMap_cons]; show rdD p :: _ = _; rw [h1, List.map_cons]
      · rcases List.mem_cons.mp hq with e | e
        · subst e; exact hp
        · exact h3 q e
    · refine ⟨(p.2, p.1) :: u, ?_, by rw [List.length_cons, List.length_cons, h2], fun q hq => ?_⟩
      · rw [List.filterMap_cons]; show rdD (p.2, p.1) :: _ = _; rw [h1, List.map_cons]
      · rcases List.mem_cons.mp hq with e | e
        · subst e; exact ⟨hp.2, hp.1⟩
        · exact h3 q e
theorem good_snoc {n : Int} {s : List (Int × Int)} {a b : Int} (h : Good n s) (ha : 0 ≤ a ∧ a < n) (hb : 0 ≤ b ∧ b < n) : Good n (s ++ [(a, b)]) := fun p hp => by
  rcases List.mem_append.mp hp with e | e
  · exact h p e
  · have : p = (a, b) := by simpa using e
    subst this
    exact ⟨ha, hb⟩
theorem rd_snoc (s : List (Int × Int)) (a b : Int) : s.map rdD ++ [.tuple [.int a, .int b]] = (s ++ [(a, b)]).map rdD := by rw [List.map_append]; rfl
def SS (l : List Int) : Prop := l.Pairwise (· < ·)
theorem SS.nodup {l : List Int} (h : SS l) : l.Nodup := List.nodup_iff_pairwise_ne.mpr (h.imp fun h => Int.ne_of_lt h)
theorem SS.le {l : List Int} (h : SS l) : l.Pairwise (· ≤ ·) := h.imp fun h => Int.le_of_lt h
theorem ss_unique {a b : List Int} (ha : SS a) (hb : SS b) (h : a.Perm b) : a = b :=
  List.Perm.eq_of_pairwise (le := (· ≤ ·)) (fun _ _ _ _ h1 h2 => Int.le_antisymm h1 h2) ha.le hb.le h
theorem sortI_perm (l : List Int) : (W2.sortI l).Perm l := List.mergeSort_perm _ _
theorem sortI_le (l : List Int) : (W2.sortI l).Pairwise (· ≤ ·) := by
  have h := List.pairwise_mergeSort (le := fun a b : Int => decide (a ≤ b)) (fun a b c h1 h2 => decide_eq_true (Int.le_trans (of_decide_eq_true h1) (of_decide_eq_true h2))) (fun a b => by
    rcases Int.le_total a b with h | h
    · simp [h]
    · simp [h]) l
  exact h.imp fun h => of_decide_eq_true h
theorem sortI_ss {l : List Int} (h : l.Nodup) : SS (W2.sortI l) := by
  have h1 := sortI_le l
  have h2 : (W2.sortI l).Nodup := (sortI_perm l).nodup_iff.mpr h
  exact (h1.and (List.nodup_iff_pairwise_ne.mp h2)).imp fun h => by omega
theorem nodup_le {α : Type} [BEq α] [LawfulBEq α] : ∀ {l m : List α}, l.Nodup → (∀ x ∈ l, x ∈ m) → l.length ≤ m.length
  | [], _, _, _ => Nat.zero_le _
  | x :: r, m, h, hs => by
    have h' := List.nodup_cons.mp h
    have hx := hs x List.mem_cons_self
    have ih := nodup_le (l := r) (m := m.erase x) h'.2 fun y hy => by
      refine (List.mem_erase_of_ne ?_).mpr (hs y (List.mem_cons_of_mem _ hy))
      intro z; subst z; exact h'.1 hy
    rw [List.length_erase_of_mem hx] at ih
    have pos : 0 < m.length := List.length_pos_of_mem hx
    rw [List.length_cons]
    omega
theorem sh_tuple (xs : List W2.D) : (PyData.tuple xs).shown.length ≤ 3 + piled (PyData.shownAll xs) := by
  show (tupleText (PyData.shownAll xs)).length ≤ _
  unfold tupleText
  rw [strLen_append, strLen_append]
  have e1 : ((("(" : String) : Str)).length = 1 := rfl
  have e3 : (((if (PyData.shownAll xs).length == 1 then ",)" else ")" : String) : Str)).length ≤ 2 := by split <;> decide
  rw [e1]
  by_cases h : PyData.shownAll xs = []
  · rw [h] at e3 ⊢
    have : (Str.join ", " ([] : List Str)).length = 0 := rfl
    rw [this]
    omega
  · have := join_length_add _ h
    omega
theorem sh_list (xs : List W2.D) : (PyData.list xs).shown.length ≤ 2 + piled (PyData.shownAll xs) := by
  show (listText (PyData.shownAll xs)).length ≤ _
  unfold listText
  rw [strLen_append]
  have e1 : ((("]" : String) : Str)).length = 1 := rfl
  rw [e1]
  cases PyData.shownAll xs with
  | nil => decide
  | cons t r =>
    show (textFrom 1 ("[" ++ "" ++ t) r).length + 1 ≤ _
    rw [textFrom_length_pos r 1 _ (by decide), piled_cons, strLen_append]
    have e2 : (("[" : Str) ++ ((("" : String) : Str))).length = 1 := rfl
    rw [e2]
    omega
theorem piled_map {α : Type} {e : α → W2.D} {B : Nat} : ∀ {l : List α}, (∀ x ∈ l, (e x).shown.length ≤ B) → piled (PyData.shownAll (l.map e)) ≤ l.length * (B + 2)
  | [], _ => Nat.zero_le _
  | x :: r, h => by
    show piled ((e x).shown :: PyData.shownAll (r.map e)) ≤ _
    rw [piled_cons, List.length_cons, Nat.succ_mul]
    have h1 := h x List.mem_cons_self
    have h2 := piled_map (l := r) fun y hy => h y (List.mem_cons_of_mem _ hy)
    omega
theorem sh_int {i : Int} {B : Nat} (h : i.natAbs ≤ B) : (PyData.int i).shown.length ≤ B + 2 := by
  have := len_str_of_int i
  show (Str.ofString (toString i)).length ≤ _
  omega
theorem log_small {n : Nat} (h : n ≤ 1000000) : n.log2 < 1000 := by
  by_cases c : n = 0
  · subst c; decide
  · refine (Nat.log2_lt c).mpr (Nat.lt_of_le_of_lt h ?_)
    exact Nat.lt_of_lt_of_le (show 1000000 < 2 ^ 20 by decide) (Nat.pow_le_pow_right (by decide) (show 20 ≤ 1000 by decide))
theorem showAll_map {α : Type} {e : α → W2.D} : ∀ {l : List α}, (∀ x ∈ l, (e x).showable = true) → PyData.showableAll (l.map e) = true
  | [], _ => rfl
  | x :: r, h => by
    show ((e x).showable && PyData.showableAll (r.map e)) = true
    rw [h x List.mem_cons_self, showAll_map fun y hy => h y (List.mem_cons_of_mem _ hy)]; rfl
theorem show_int {i : Int} (h : i.natAbs ≤ 1000000) : (PyData.int i).showable = true := by
  show decide (i.natAbs.log2 < 1920) = true
  have := log_small h
  exact decide_eq_true (by omega)
def LotOk (l : List Int) : Prop := l.length ≤ 10 ∧ ∀ r ∈ l, r.natAbs ≤ 10
theorem sh_lot {l : List Int} (h : LotOk l) : (lotD l).shown.length ≤ 143 := by
  have h1 := sh_tuple (l.map PyData.int)
  have h2 := piled_map (e := PyData.int) (B := 12) (l := l) fun r hr => sh_int (h.2 r hr)
  have h3 := Nat.mul_le_mul_right (12 + 2) h.1
  show (PyData.tuple _).shown.length ≤ _
  omega
theorem show_lot {l : List Int} (h : LotOk l) : (lotD l).showable = true := showAll_map (e := PyData.int) fun r hr => show_int (Nat.le_trans (h.2 r hr) (by decide))
theorem sh_pr {p : LI} {B : Nat} (h : LotOk p.1) (hb : p.2.natAbs ≤ B) : (W2.prD p).shown.length ≤ B + 152 := by
  have h1 := sh_tuple [lotD p.1, .int p.2]
  have h2 : piled (PyData.shownAll [lotD p.1, .int p.2]) = ((lotD p.1).shown.length + 2) + (((PyData.int p.2).shown.length + 2) + 0) := by
    show piled [_, _] = _
    rw [piled_cons, piled_cons]; rfl
  have h3 := sh_lot h
  have h4 := sh_int hb
  show (PyData.tuple _).shown.length ≤ _
  omega
theorem show_pr {p : LI} (h : LotOk p.1) (hb : p.2.natAbs ≤ 1000000) : (W2.prD p).showable = true := by
  show ((lotD p.1).showable && ((PyData.int p.2).showable && true)) = true
  rw [show_lot h, show_int hb]; rfl
theorem reprOk_of {d : W2.D} (h1 : d.canLay0 = true) (h2 : d.showable = true) (h3 : d.depth ≤ 64) (h4 : d.shown.length ≤ 16777216) : reprOk d = true := by
  unfold reprOk
  rw [h1, h2, decide_eq_true h3, decide_eq_true h4]; rfl
theorem repr_int {i : Int} (h : i.natAbs ≤ 1000000) : reprOk (.int i) = true := reprOk_of rfl (show_int h) (Nat.zero_le _) (by have := sh_int h; omega)
theorem repr_frame {n : Int} {roads : List (Int × Int)} (hn : n.natAbs ≤ 10) (hl : roads.length ≤ 100) (h : ∀ p ∈ roads, p.1.natAbs ≤ 10 ∧ p.2.natAbs ≤ 10) : reprOk (frD n roads) = true := by
  have lay_rd : ∀ p : Int × Int, (rdD p).canLay0 = true := fun _ => rfl
  have d_rd : ∀ p : Int × Int, (rdD p).depth ≤ 1 := fun _ => Nat.le_refl _
  refine reprOk_of ?_ ?_ ?_ ?_
  · show (true && (PyData.canLayAll0 (roads.map rdD) && true)) = true
    rw [layAll_map lay_rd]; rfl
  · show ((PyData.int n).showable && (PyData.showableAll (roads.map rdD) && true)) = true
    rw [show_int (Nat.le_trans hn (by decide)), showAll_map (e := rdD) fun p hp => ?_]
    · rfl
    · show ((PyData.int p.1).showable && ((PyData.int p.2).showable && true)) = true
      rw [show_int (Nat.le_trans (h p hp).1 (by decide)), show_int (Nat.le_trans (h p hp).2 (by decide))]; rfl
  · show max 0 (max (PyData.depthAll (roads.map rdD) + 1) 0) + 1 ≤ 64
    have := depthAll_map d_rd roads
    omega
  · have h1 := sh_tuple [.int n, .tuple (roads.map rdD)]
    have h2 : piled (PyData.shownAll [.int n, .tuple (roads.map rdD)]) = ((PyData.int n).shown.length + 2) + (((PyData.tuple (roads.map rdD)).shown.length + 2) + 0) := by
      show piled [_, _] = _
      rw [piled_cons, piled_cons]; rfl
    have h3 := sh_int hn
    have h4 := sh_tuple (roads.map rdD)
    have h5 := piled_map (e := rdD) (B := 31) (l := roads) fun p hp => by
      have a1 := sh_tuple [.int p.1, .int p.2]
      have a2 : piled (PyData.shownAll [.int p.1, .int p.2]) = ((PyData.int p.1).shown.length + 2) + (((PyData.int p.2).shown.length + 2) + 0) := by
        show piled [_, _] = _
        rw [piled_cons, piled_cons]; rfl
      have a3 := sh_int (h p hp).1
      have a4 := sh_int (h p hp).2
      show (PyData.tuple _).shown.length ≤ _
      omega
    have h6 := Nat.mul_le_mul_right (31 + 2) hl
    show (PyData.tuple _).shown.length ≤ _
    omega
theorem leL_is (p q : List Int) : leL p q = decide (p ≤ q) := by
  have h := congrFun (congrFun (dataLe_rows (fun x : List Int => x)) p) q
  rw [← h]
  rfl
theorem gNe_eq {x y : W2.D} {P : W2.D → Prop} (e : x = y) (h1 : eqOk y y = true) (h2 : PyData.eqv y y = true) (h : P (.bool false)) : gNe x y P := by
  subst e
  exact ⟨h1, by rw [h2]; exact h⟩
theorem gNe_str {x y : W2.D} {P : W2.D → Prop} (e : x = y) (h : P (.bool false)) : gNe (.str x.shown) (.str y.shown) P := by
  subst e
  exact gNe_eq rfl rfl (by show (x.shown == x.shown) = true; exact beq_self_eq_true _) h
theorem rangeD0 (n : Nat) : rangeD 0 n = (List.range n).map fun i : Nat => PyData.int (i : Int) := by
  unfold rangeD
  refine List.map_congr_left fun i _ => ?_
  rw [Int.zero_add]
theorem cutD_map {α : Type} (e : α → W2.D) (l : List α) (lo hi : Option Int) : ∃ l' : List α, W2.cutD (l.map e) lo hi = l'.map e ∧ (∀ x ∈ l', x ∈ l) ∧ l'.length ≤ l.length := by
  unfold W2.cutD
  rw [← List.map_drop, ← List.map_take]
  exact ⟨_, rfl, fun x hx => List.mem_of_mem_drop (List.mem_of_mem_take hx), by rw [List.length_take, List.length_drop]; omega⟩
end W2

set_option Elab.async false
set_option linter.all false
set_option maxRecDepth 100000
/-! W2AB: one of some, over any container (gen.py prints gIxA). -/
namespace W2
open PySem PySem.Spec PyProof.Rows L2 PySem.W
def wbOfA : WS := wRet (w2 gIxA (wB 1) (wFnS 0 1 wfPick (wCons (wCall gLen (wCons (wB 1) wNil)) wNil)))
theorem of_lawA {ds : List D} {Q : D → Prop} (hl : ds.length = 1) (h : wfOf ds Q) : wbOfA { nx := fun _ => Q .none, rt := Q } (startE ["source", "some"] (.src :: ds.map .fz)) := by
  obtain ⟨d, rfl⟩ : ∃ d, ds = [d] := by
    match ds, hl with
    | [d], _ => exact ⟨d, rfl⟩
  have go : ∀ (xs : List D) (P : D → Prop), xs ≠ [] → xs.length < 1073741824 → (∀ x ∈ xs, P x) → (xs.length : Int) < 1073741824 ∧ ∀ r : Int, 0 ≤ r → r < max 1 (xs.length : Int) → ∃ x, L2.atI xs r = some x ∧ P x := fun xs P ne lt h => by
    refine ⟨by omega, fun r h0 h1 => ?_⟩
    have pos : 0 < xs.length := by cases xs with | nil => exact absurd rfl ne | cons _ _ => exact Nat.succ_pos _
    have hr : r.toNat < xs.length := by omega
    refine ⟨xs[r.toNat], ?_, h _ (List.getElem_mem _)⟩
    unfold L2.atI ixN
    rw [if_pos h0, if_pos (by omega)]
    exact List.getElem?_eq_getElem hr
  cases d <;> first | exact h.elim | skip
  · rename_i xs
    obtain ⟨g1, g2⟩ := go xs Q h.1 h.2.1 h.2.2
    exact ⟨rfl, g1, fun r h0 h1 => g2 r h0 h1⟩
  · rename_i xs
    obtain ⟨g1, g2⟩ := go xs Q h.1 h.2.1 h.2.2
    exact ⟨rfl, g1, fun r h0 h1 => g2 r h0 h1⟩
end W2

set_option Elab.async false
set_option linter.all false
set_option maxRecDepth 100000
namespace K25
open PySem PySem.Spec PyProof.Rows L2 W2
/-! ### the text (printed by gen.py) -/
def topS (i : Nat) : Stmt := PySem.Challenge.pw_starpowers_k25_burn_papers_judged.main.body.getD i (.Pass ⟨0, 0, 0, 0⟩)
abbrev s_is_whole : Stmt := topS 1
abbrev s_is_powers : Stmt := topS 3
abbrev s_roads_to : Stmt := topS 4
abbrev s_burnt_in_sequence : Stmt := topS 5
abbrev s_is_parking : Stmt := topS 6
abbrev s_burn_paper : Stmt := topS 7
abbrev s_judge_burn : Stmt := topS 8
abbrev s__law_source : Stmt := topS 10
abbrev s__law_pick : Stmt := topS 11
abbrev s__law_of : Stmt := topS 12
abbrev s__law_mixed : Stmt := topS 13
abbrev s__law_frame : Stmt := topS 15
abbrev s__law_ways_out : Stmt := topS 17
abbrev s__law_crossing_lots : Stmt := topS 16
abbrev s__law_lot_kept : Stmt := topS 18
abbrev s__law_is_int : Stmt := topS 14
abbrev s__law_are_powers : Stmt := topS 19
abbrev s__law_fault : Stmt := topS 20
abbrev s_law : Stmt := topS 21
theorem sc_is_whole : FnScope ["value"] ["value"] (defScope s_is_whole) := ⟨rfl, rfl, rfl, by decide +kernel, rfl, by decide +kernel, by decide +kernel⟩
theorem sc_is_powers : FnScope ["n", "value", "one"] ["n", "value"] (defScope s_is_powers) := ⟨rfl, rfl, rfl, by decide +kernel, rfl, by decide +kernel, by decide +kernel⟩
theorem sc_roads_to : FnScope ["frame", "crossing", "lot", "pairs", "a", "b"] ["frame", "crossing", "lot"] (defScope s_roads_to) := ⟨rfl, rfl, rfl, by decide +kernel, rfl, by decide +kernel, by decide +kernel⟩
theorem sc_burnt_in_sequence : FnScope ["frame", "powers", "met", "found", "lap", "some", "c"] ["frame", "powers"] (defScope s_burnt_in_sequence) := ⟨rfl, rfl, rfl, by decide +kernel, rfl, by decide +kernel, by decide +kernel⟩
theorem sc_is_parking : FnScope ["frame", "value"] ["frame", "value"] (defScope s_is_parking) := ⟨rfl, rfl, rfl, by decide +kernel, rfl, by decide +kernel, by decide +kernel⟩
theorem sc_burn_paper : FnScope ["frame", "powers", "burnt", "crossing"] ["frame", "powers"] (defScope s_burn_paper) := ⟨rfl, rfl, rfl, by decide +kernel, rfl, by decide +kernel, by decide +kernel⟩
theorem sc_judge_burn : FnScope ["frame", "powers", "value", "n", "told", "k", "crossing", "rest", "wrong", "one"] ["frame", "powers", "value"] (defScope s_judge_burn) := ⟨rfl, rfl, rfl, by decide +kernel, rfl, by decide +kernel, by decide +kernel⟩
theorem sc__law_source : FnScope ["script", "mixed", "cell"] ["script"] (defScope s__law_source) := ⟨rfl, rfl, rfl, by decide +kernel, rfl, by decide +kernel, by decide +kernel⟩
theorem sc__law_pick : FnScope ["source", "many", "left", "mixed"] ["source", "many"] (defScope s__law_pick) := ⟨rfl, rfl, rfl, by decide +kernel, rfl, by decide +kernel, by decide +kernel⟩
theorem sc__law_of : FnScope ["source", "some"] ["source", "some"] (defScope s__law_of) := ⟨rfl, rfl, rfl, by decide +kernel, rfl, by decide +kernel, by decide +kernel⟩
theorem sc__law_mixed : FnScope ["source", "things", "rest", "lap"] ["source", "things"] (defScope s__law_mixed) := ⟨rfl, rfl, rfl, by decide +kernel, rfl, by decide +kernel, by decide +kernel⟩
theorem sc__law_frame : FnScope ["source", "crossings", "roads", "n", "pairs", "lap", "turned", "v", "a", "b"] ["source", "crossings", "roads"] (defScope s__law_frame) := ⟨rfl, rfl, rfl, by decide +kernel, rfl, by decide +kernel, by decide +kernel⟩
theorem sc__law_ways_out : FnScope ["frame", "crossing", "lot", "a", "b"] ["frame", "crossing", "lot"] (defScope s__law_ways_out) := ⟨rfl, rfl, rfl, by decide +kernel, rfl, by decide +kernel, by decide +kernel⟩
theorem sc__law_crossing_lots : FnScope ["n", "found", "crossing", "lot"] ["n"] (defScope s__law_crossing_lots) := ⟨rfl, rfl, rfl, by decide +kernel, rfl, by decide +kernel, by decide +kernel⟩
theorem sc__law_lot_kept : FnScope ["frame", "powers", "lot", "c"] ["frame", "powers"] (defScope s__law_lot_kept) := ⟨rfl, rfl, rfl, by decide +kernel, rfl, by decide +kernel, by decide +kernel⟩
theorem sc__law_is_int : FnScope ["value"] ["value"] (defScope s__law_is_int) := ⟨rfl, rfl, rfl, by decide +kernel, rfl, by decide +kernel, by decide +kernel⟩
theorem sc__law_are_powers : FnScope ["n", "value", "one"] ["n", "value"] (defScope s__law_are_powers) := ⟨rfl, rfl, rfl, by decide +kernel, rfl, by decide +kernel, by decide +kernel⟩
theorem sc__law_fault : FnScope ["frame", "powers", "value", "n", "told", "k", "crossing", "rest", "wrong", "c"] ["frame", "powers", "value"] (defScope s__law_fault) := ⟨rfl, rfl, rfl, by decide +kernel, rfl, by decide +kernel, by decide +kernel⟩
theorem sc_law : FnScope ["script", "source", "lap", "frame", "n", "kept", "powers", "lot", "told", "crossing", "some", "others", "odd", "row", "part", "values", "value", "shown", "fault", "k", "is_one", "c", "number"] ["script"] (defScope s_law) := ⟨rfl, rfl, rfl, by decide +kernel, rfl, by decide +kernel, by decide +kernel⟩
/-- the facts of the written part -/
structure Fs (K : PySem.W.Frag) (mg : Str → Option Value) where
  f_is_whole : FnF K mg "is_whole" s_is_whole ["value"]
  f_is_powers : FnF K mg "is_powers" s_is_powers ["n", "value"]
  f_roads_to : FnF K mg "roads_to" s_roads_to ["frame", "crossing", "lot"]
  f_burnt_in_sequence : FnF K mg "burnt_in_sequence" s_burnt_in_sequence ["frame", "powers"]
  f_is_parking : FnF K mg "is_parking" s_is_parking ["frame", "value"]
  f_burn_paper : FnF K mg "burn_paper" s_burn_paper ["frame", "powers"]
  f_judge_burn : FnF K mg "judge_burn" s_judge_burn ["frame", "powers", "value"]
  f__law_source : FnF K mg "_law_source" s__law_source ["script"]
  f__law_pick : FnF K mg "_law_pick" s__law_pick ["source", "many"]
  f__law_of : FnF K mg "_law_of" s__law_of ["source", "some"]
  f__law_mixed : FnF K mg "_law_mixed" s__law_mixed ["source", "things"]
  f__law_frame : FnF K mg "_law_frame" s__law_frame ["source", "crossings", "roads"]
  f__law_ways_out : FnF K mg "_law_ways_out" s__law_ways_out ["frame", "crossing", "lot"]
  f__law_crossing_lots : FnF K mg "_law_crossing_lots" s__law_crossing_lots ["n"]
  f__law_lot_kept : FnF K mg "_law_lot_kept" s__law_lot_kept ["frame", "powers"]
  f__law_is_int : FnF K mg "_law_is_int" s__law_is_int ["value"]
  f__law_are_powers : FnF K mg "_law_are_powers" s__law_are_powers ["n", "value"]
  f__law_fault : FnF K mg "_law_fault" s__law_fault ["frame", "powers", "value"]
  f_law : FnF K mg "law" s_law ["script"]
  n_abs : mg "abs" = none
  n_all : mg "all" = none
  n_bool : mg "bool" = none
  n_enumerate : mg "enumerate" = none
  n_int : mg "int" = none
  n_isinstance : mg "isinstance" = none
  n_len : mg "len" = none
  n_list : mg "list" = none
  n_max : mg "max" = none
  n_min : mg "min" = none
  n_range : mg "range" = none
  n_repr : mg "repr" = none
  n_sorted : mg "sorted" = none
  n_str : mg "str" = none
  n_tuple : mg "tuple" = none
section
variable {P : Program} {w : World} {K : PySem.W.Frag} {mg : Str → Option Value} {base : Heap}
def wb_is_whole : WS :=
  wRet (wAndV (wIsi "int" (wB 0)) (w1 gNotB (wIsi "bool" (wB 0))))
theorem wk_is_whole (Z : Fs K mg) {wf : WF} (hw : ∀ ds Q, ds.length = 1 → wf ds Q → wb_is_whole { nx := fun _ => Q .none, rt := Q } (startE ["value"] (ds.map .fz))) : FnG P w K mg base 1 Z.f_is_whole.a Z.f_is_whole.d ["value"] (spW K 1 wf) :=
  fn_pure (wf := wf) (wb := wb_is_whole) Z.f_is_whole.F sc_is_whole (fun cdv A outer s H hr hG => ⟨_,
    dss_one (ds_ret (de_and (de_isi K rfl kit_int boot_int (by rfl) Z.n_isinstance (by rfl) Z.n_int (do_name 0) bt_isinstance) (de_one (de_not (de_isi K rfl kit_bool boot_bool (by rfl) Z.n_isinstance (by rfl) Z.n_bool (do_name 0) bt_isinstance)))))⟩) hw
def wb_is_powers (wf_is_whole : WF) : WS :=
  wSeq (wIf (wOrT (wNotT (wTr (wIsi "tuple" (wB 1)))) (wTrB (w2 gNe (wCall gLen (wCons (wB 1) (wNil))) (w2 gSubI (wB 0) (wC (.int 1)))))) (wRet (wC (.bool false))) (wNext)) (wRet (wCall gAll (wCons (wLc (wItems (wN 1)) (wGn 2) (wYes) (wAndV (wFn 1 wf_is_whole (wCons (wN 2) (wNil))) (w2 gGeI (wB 2) (wC (.int 0)))) [2]) (wNil))))
theorem wk_is_powers (Z : Fs K mg) {wf_is_whole : WF} {wf : WF} (G_is_whole : FnG P w K mg base 1 Z.f_is_whole.a Z.f_is_whole.d ["value"] (spW K 1 wf_is_whole)) (hw : ∀ ds Q, ds.length = 2 → wf ds Q → wb_is_powers wf_is_whole { nx := fun _ => Q .none, rt := Q } (startE ["n", "value", "one"] (ds.map .fz))) : FnG P w K mg base 2 Z.f_is_powers.a Z.f_is_powers.d ["n", "value"] (spW K 2 wf) :=
  fn_pure (wf := wf) (wb := wb_is_powers wf_is_whole) Z.f_is_powers.F sc_is_powers (fun cdv A outer s H hr hG => ⟨_,
    dss_cons (ds_if (DW.t (dw_or (dt_not (dt_truthK K rfl (DE.op (de_isi K rfl kit_tuple boot_tuple (by rfl) Z.n_isinstance (by rfl) Z.n_tuple (do_name 1) bt_isinstance)))) (dw_or1 (dt_cmp (op_neK K rfl (un64 hr)) (@rs_ne _) (by rfl) (DE.op (de_callB (cr_lenK K rfl) (@cs_len _) boot_len (by rfl) Z.n_len (da_cons (do_name 1) (da_nil)))) (DE.op (de_op op_sub (@rs_subI _) (do_name 0) (DE.op (de_int)))))))) (dss_one (ds_ret (de_bl))) (dss_nil)) (dss_one (ds_ret (de_callB (cr_allK K rfl rfl) (@cs_all _) bt_all (by rfl) Z.n_all (da_cons (DL.op (dl_lcV rfl sc_is_powers.nd (di_itemsK K rfl (de_name 1)) [("one", 2)] (blkOk_by (N := ["n", "value", "one"]) (sc := defScope s_is_powers) (by decide +kernel)) (fun _ _ _ _ _ => dg_name 2 sc_is_powers.nd) (fun _ _ _ _ _ => dtt_nil) (fun _ _ _ _ _ => de_and (de_fnK K rfl (G_is_whole.mono (by decide)) hr hG Z.f_is_whole.m Z.f_is_whole.F.kp Z.f_is_whole.b (by rfl) (db_cons (de_name 2) (db_nil))) (de_one (de_cmp op_ge (@rs_geI _) (by rfl) (do_name 2) (DE.op (de_int))))) (by decide))) (da_nil)))))⟩) hw
def wb_roads_to : WS :=
  wSeq (wAsg (wLc (wItems (w2 gIxA (wB 0) (wC (.int 1)))) (wGt 2 (wGcons (wGn 4) (wGcons (wGn 5) (wGnil)))) (wAndT (wTrB (w2 (gInA false) (wN 1) (wTup (wCons (wN 4) (wCons (wN 5) (wNil)))))) (wTrB (w2 gNe (wB 4) (wB 5)))) (wTup (wCons (wN 4) (wCons (wN 5) (wNil)))) [4, 5]) (wGn 3)) (wRet (wCall gLen (wCons (wLc (wItems (wN 3)) (wGt 2 (wGcons (wGn 4) (wGcons (wGn 5) (wGnil)))) (wTrB (w2 (gInA false) (w2 gSubI (w2 gAdd (wB 4) (wB 5)) (wB 1)) (wB 2))) (wC (.int 1)) [4, 5]) (wNil))))
theorem wk_roads_to (Z : Fs K mg) {wf : WF} (hw : ∀ ds Q, ds.length = 3 → wf ds Q → wb_roads_to { nx := fun _ => Q .none, rt := Q } (startE ["frame", "crossing", "lot", "pairs", "a", "b"] (ds.map .fz))) : FnG P w K mg base 1 Z.f_roads_to.a Z.f_roads_to.d ["frame", "crossing", "lot"] (spW K 3 wf) :=
  fn_pure (wf := wf) (wb := wb_roads_to) Z.f_roads_to.F sc_roads_to (fun cdv A outer s H hr hG => ⟨_,
    dss_cons (ds_lcF 3 rfl sc_roads_to.nd (di_itemsK K rfl (de_ixK K rfl (un1 hr) (fun _ _ => rfl) (do_name 0) (de_int))) [("a", 4), ("b", 5)] (blkOk_by (N := ["frame", "crossing", "lot", "pairs", "a", "b"]) (sc := defScope s_roads_to) (by decide +kernel)) (fun _ _ _ _ _ => dg_tupK K rfl rfl (dgs_cons (dg_name 4 sc_roads_to.nd) (dgs_cons (dg_name 5 sc_roads_to.nd) (dgs_nil)))) (fun _ _ _ _ _ => dtt_one (DW.t (dw_and (dt_cmp1 (op_inK K rfl (un65 hr)) (@rs_in _) (by rfl) (de_name 1) (DE.op (de_tup (db_cons (de_name 4) (db_cons (de_name 5) (db_nil)))))) (dw_and1 (dt_cmp (op_neK K rfl (un64 hr)) (@rs_ne _) (by rfl) (do_name 4) (do_name 5)))))) (fun _ _ _ _ _ => de_tup (db_cons (de_name 4) (db_cons (de_name 5) (db_nil)))) (by decide)) (dss_one (ds_ret (de_callB (cr_lenK K rfl) (@cs_len _) boot_len (by rfl) Z.n_len (da_cons (DL.op (dl_lcV rfl sc_roads_to.nd (di_itemsK K rfl (de_name 3)) [("a", 4), ("b", 5)] (blkOk_by (N := ["frame", "crossing", "lot", "pairs", "a", "b"]) (sc := defScope s_roads_to) (by decide +kernel)) (fun _ _ _ _ _ => dg_tupK K rfl rfl (dgs_cons (dg_name 4 sc_roads_to.nd) (dgs_cons (dg_name 5 sc_roads_to.nd) (dgs_nil)))) (fun _ _ _ _ _ => dtt_one (dt_cmp1 (op_inK K rfl (un65 hr)) (@rs_in _) (by rfl) (de_op op_sub (@rs_subI _) (DE.op (de_op (op_addK K rfl) (@rs_add _) (do_name 4) (do_name 5))) (do_name 1)) (do_name 2))) (fun _ _ _ _ _ => de_int) (by decide))) (da_nil)))))⟩) hw
def wb_burnt_in_sequence (wf_roads_to : WF) : WS :=
  wSeq (wPar [2, 3] (wMOw (wLst (wCons (wC (.int 0)) (wNil))) (wMOw (wLst (wNil)) (wMNil)))) (wSeq (wFor (wRng2 (wC (.int 1)) (w2 gIxA (wB 0) (wC (.int 0)))) (wGn 4) (wSeq (wAsg (wLc (wRng2 (wC (.int 1)) (w2 gIxA (wB 0) (wC (.int 0)))) (wGn 6) (wAndT (wTrB (w2 (gInA true) (wN 6) (wB 2))) (wTrB (w2 gLtI (w2 gIxA (wB 1) (w2 gSubI (wB 6) (wC (.int 1)))) (wFnOw 3 wf_roads_to (wCons (wB 0) (wCons (wB 6) (wCons (wB 2) (wNil)))))))) (wN 6) [6]) (wGn 5)) (wSeq (wMutE 3 gExtend (wCons (wSl (wB 5) (wNoPart) (wPart (wC (.int 1)))) (wNil)) (fun _ η Q => Q η)) (wMutE 2 gExtend (wCons (wSl (wB 5) (wNoPart) (wPart (wC (.int 1)))) (wNil)) (fun _ η Q => Q η))))) (wRet (wCall gTuple (wCons (wB 3) (wNil)))))
theorem wk_burnt_in_sequence (Z : Fs K mg) {wf_roads_to : WF} {wf : WF} (G_roads_to : FnG P w K mg base 1 Z.f_roads_to.a Z.f_roads_to.d ["frame", "crossing", "lot"] (spW K 3 wf_roads_to)) (hw : ∀ ds Q, ds.length = 2 → wf ds Q → wb_burnt_in_sequence wf_roads_to { nx := fun _ => Q .none, rt := Q } (startE ["frame", "powers", "met", "found", "lap", "some", "c"] (ds.map .fz))) : FnG P w K mg base 2 Z.f_burnt_in_sequence.a Z.f_burnt_in_sequence.d ["frame", "powers"] (spW K 2 wf) :=
  fn_pure (wf := wf) (wb := wb_burnt_in_sequence wf_roads_to) Z.f_burnt_in_sequence.F sc_burnt_in_sequence (fun cdv A outer s H hr hG => ⟨_,
    dss_cons (ds_parT rfl (dm_ow (dl_lst (db_cons (de_int) (db_nil))) (dm_ow (dl_lst (db_nil)) (dm_nil))) (pgn_cons 2 sc_burnt_in_sequence.nd (pgn_cons 3 sc_burnt_in_sequence.nd (pgn_nil)))) (dss_cons (ds_for PassesOwn.never rfl (di_range2 (by rfl) Z.n_range (DE.op (de_int)) (DE.op (de_ixK K rfl (un1 hr) (fun _ _ => rfl) (do_name 0) (de_int)))) (dg_name 4 sc_burnt_in_sequence.nd) (dss_cons (ds_lcF 5 rfl sc_burnt_in_sequence.nd (di_range2 (by rfl) Z.n_range (DE.op (de_int)) (DE.op (de_ixK K rfl (un1 hr) (fun _ _ => rfl) (do_name 0) (de_int)))) [("c", 6)] (blkOk_by (N := ["frame", "powers", "met", "found", "lap", "some", "c"]) (sc := defScope s_burnt_in_sequence) (by decide +kernel)) (fun _ _ _ _ _ => dg_name 6 sc_burnt_in_sequence.nd) (fun _ _ _ _ _ => dtt_one (DW.t (dw_and (dt_cmp1 (op_notInK K rfl (un65 hr)) (@rs_notIn _) (by rfl) (de_name 6) (do_name 2)) (dw_and1 (dt_cmp op_lt (@rs_ltI _) (by rfl) (DE.op (de_ixK K rfl (un1 hr) (fun _ _ => rfl) (do_name 1) (de_op op_sub (@rs_subI _) (do_name 6) (DE.op (de_int))))) (DE.op (de_fnBK K rfl (G_roads_to.mono (by decide)) hr hG Z.f_roads_to.m Z.f_roads_to.F.kp Z.f_roads_to.b (by rfl) (da_cons (do_name 0) (da_cons (do_name 6) (da_cons (do_name 2) (da_nil))))))))))) (fun _ _ _ _ _ => de_name 6) (by decide)) (dss_cons (ds_extend 3 (db_cons (de_sliceK K rfl (do_name 5) (dpo_none) (dpo_some (DE.op (de_int)))) (db_nil)) (pv 3)) (dss_one (ds_extend 2 (db_cons (de_sliceK K rfl (do_name 5) (dpo_none) (dpo_some (DE.op (de_int)))) (db_nil)) (pv 2)))))) (dss_one (ds_ret (de_callT (cr_tupleK K rfl) (@cs_tuple _) boot_tuple (by rfl) Z.n_tuple (da_cons (do_name 3) (da_nil))))))⟩) hw
def wb_is_parking (wf_is_powers wf_burnt_in_sequence : WF) : WS :=
  wRet (wAndV (wFn 2 wf_is_powers (wCons (w2 gIxA (wB 0) (wC (.int 0))) (wCons (wN 1) (wNil)))) (w2 gEq (wCall gLen (wCons (wFn 2 wf_burnt_in_sequence (wCons (wN 0) (wCons (wN 1) (wNil)))) (wNil))) (w2 gSubI (w2 gIxA (wB 0) (wC (.int 0))) (wC (.int 1)))))
theorem wk_is_parking (Z : Fs K mg) {wf_is_powers wf_burnt_in_sequence : WF} {wf : WF} (G_is_powers : FnG P w K mg base 2 Z.f_is_powers.a Z.f_is_powers.d ["n", "value"] (spW K 2 wf_is_powers)) (G_burnt_in_sequence : FnG P w K mg base 2 Z.f_burnt_in_sequence.a Z.f_burnt_in_sequence.d ["frame", "powers"] (spW K 2 wf_burnt_in_sequence)) (hw : ∀ ds Q, ds.length = 2 → wf ds Q → wb_is_parking wf_is_powers wf_burnt_in_sequence { nx := fun _ => Q .none, rt := Q } (startE ["frame", "value"] (ds.map .fz))) : FnG P w K mg base 3 Z.f_is_parking.a Z.f_is_parking.d ["frame", "value"] (spW K 2 wf) :=
  fn_pure (wf := wf) (wb := wb_is_parking wf_is_powers wf_burnt_in_sequence) Z.f_is_parking.F sc_is_parking (fun cdv A outer s H hr hG => ⟨_,
    dss_one (ds_ret (de_and (de_fnK K rfl (G_is_powers.mono (by decide)) hr hG Z.f_is_powers.m Z.f_is_powers.F.kp Z.f_is_powers.b (by rfl) (db_cons (de_ixK K rfl (un1 hr) (fun _ _ => rfl) (do_name 0) (de_int)) (db_cons (de_name 1) (db_nil)))) (de_one (de_cmp (op_eqK K rfl (un64 hr)) (@rs_eq _) (by rfl) (DE.op (de_callB (cr_lenK K rfl) (@cs_len _) boot_len (by rfl) Z.n_len (da_cons (DE.op (de_fnK K rfl (G_burnt_in_sequence.mono (by decide)) hr hG Z.f_burnt_in_sequence.m Z.f_burnt_in_sequence.F.kp Z.f_burnt_in_sequence.b (by rfl) (db_cons (de_name 0) (db_cons (de_name 1) (db_nil))))) (da_nil)))) (DE.op (de_op op_sub (@rs_subI _) (DE.op (de_ixK K rfl (un1 hr) (fun _ _ => rfl) (do_name 0) (de_int))) (DE.op (de_int))))))))⟩) hw
def wb_burn_paper (wf_burnt_in_sequence : WF) : WS :=
  wSeq (wAsg (wFn 2 wf_burnt_in_sequence (wCons (wN 0) (wCons (wN 1) (wNil)))) (wGn 2)) (wSeq (wIf (wTrB (w2 gEq (wCall gLen (wCons (wB 2) (wNil))) (w2 gSubI (w2 gIxA (wB 0) (wC (.int 0))) (wC (.int 1))))) (wRet (wTup (wCons (wC (.str "burns")) (wCons (wN 2) (wNil))))) (wNext)) (wRet (wTup (wCons (wC (.str "lot")) (wCons (wCall gTuple (wCons (wLc (wRng2 (wC (.int 1)) (w2 gIxA (wB 0) (wC (.int 0)))) (wGn 3) (wTrB (w2 (gInA true) (wN 3) (wB 2))) (wN 3) [3]) (wNil))) (wNil))))))
theorem wk_burn_paper (Z : Fs K mg) {wf_burnt_in_sequence : WF} {wf : WF} (G_burnt_in_sequence : FnG P w K mg base 2 Z.f_burnt_in_sequence.a Z.f_burnt_in_sequence.d ["frame", "powers"] (spW K 2 wf_burnt_in_sequence)) (hw : ∀ ds Q, ds.length = 2 → wf ds Q → wb_burn_paper wf_burnt_in_sequence { nx := fun _ => Q .none, rt := Q } (startE ["frame", "powers", "burnt", "crossing"] (ds.map .fz))) : FnG P w K mg base 3 Z.f_burn_paper.a Z.f_burn_paper.d ["frame", "powers"] (spW K 2 wf) :=
  fn_pure (wf := wf) (wb := wb_burn_paper wf_burnt_in_sequence) Z.f_burn_paper.F sc_burn_paper (fun cdv A outer s H hr hG => ⟨_,
    dss_cons (ds_set 2 sc_burn_paper.nd (de_fnK K rfl (G_burnt_in_sequence.mono (by decide)) hr hG Z.f_burnt_in_sequence.m Z.f_burnt_in_sequence.F.kp Z.f_burnt_in_sequence.b (by rfl) (db_cons (de_name 0) (db_cons (de_name 1) (db_nil))))) (dss_cons (ds_if (dt_cmp (op_eqK K rfl (un64 hr)) (@rs_eq _) (by rfl) (DE.op (de_callB (cr_lenK K rfl) (@cs_len _) boot_len (by rfl) Z.n_len (da_cons (do_name 2) (da_nil)))) (DE.op (de_op op_sub (@rs_subI _) (DE.op (de_ixK K rfl (un1 hr) (fun _ _ => rfl) (do_name 0) (de_int))) (DE.op (de_int))))) (dss_one (ds_ret (de_tup (db_cons (de_str) (db_cons (de_name 2) (db_nil)))))) (dss_nil)) (dss_one (ds_ret (de_tup (db_cons (de_str) (db_cons (de_callT (cr_tupleK K rfl) (@cs_tuple _) boot_tuple (by rfl) Z.n_tuple (da_cons (DL.op (dl_lcV rfl sc_burn_paper.nd (di_range2 (by rfl) Z.n_range (DE.op (de_int)) (DE.op (de_ixK K rfl (un1 hr) (fun _ _ => rfl) (do_name 0) (de_int)))) [("crossing", 3)] (blkOk_by (N := ["frame", "powers", "burnt", "crossing"]) (sc := defScope s_burn_paper) (by decide +kernel)) (fun _ _ _ _ _ => dg_name 3 sc_burn_paper.nd) (fun _ _ _ _ _ => dtt_one (dt_cmp1 (op_notInK K rfl (un65 hr)) (@rs_notIn _) (by rfl) (de_name 3) (do_name 2))) (fun _ _ _ _ _ => de_name 3) (by decide))) (da_nil))) (db_nil)))))))⟩) hw
def wb_judge_burn (wf_is_whole wf_roads_to : WF) : WS :=
  wSeq (wAsg (w2 gIxA (wB 0) (wC (.int 0))) (wGn 3)) (wSeq (wIf (wOrT (wNotT (wTr (wIsi "tuple" (wB 2)))) (wOrT (wTrB (w2 gNe (wCall gLen (wCons (wB 2) (wNil))) (wC (.int 2)))) (wNotT (wTr (wIsi "str" (w2 gIxA (wB 2) (wC (.int 0)))))))) (wRet (wTup (wCons (wC (.str "form")) (wNil)))) (wNext)) (wSeq (wAsg (w2 gIxA (wB 2) (wC (.int 1))) (wGn 4)) (wSeq (wIf (wOrT (wNotT (wTr (wIsi "tuple" (wB 4)))) (wNotT (wTr (wCall gAll (wCons (wLc (wItems (wN 4)) (wGn 9) (wYes) (wAndV (wFn 1 wf_is_whole (wCons (wN 9) (wNil))) (wChain gLtI gLtI (wC (.int 0)) (wB 9) (wB 3))) [9]) (wNil)))))) (wRet (wTup (wCons (wC (.str "form")) (wNil)))) (wNext)) (wSeq (wIf (wAndT (wTrB (w2 gEq (w2 gIxA (wB 2) (wC (.int 0))) (wC (.str "burns")))) (wTrB (w2 gEq (wCall gSorted (wCons (wB 4) (wNil))) (wLstRg (wR2 (wC (.int 1)) (wB 3)))))) (wSeq (wFor (wEnum (wN 4)) (wGt 2 (wGcons (wGn 5) (wGcons (wGn 6) (wGnil)))) (wIf (wTrB (w2 gGeI (w2 gIxA (wB 1) (w2 gSubI (wB 6) (wC (.int 1)))) (wFn 3 wf_roads_to (wCons (wN 0) (wCons (wN 6) (wCons (wTup (wCons (wC (.int 0)) (wStar (wSl (wB 4) (wNoPart) (wPart (wB 5))) (wNil)))) (wNil))))))) (wRet (wTup (wCons (wC (.str "burns")) (wCons (wN 5) (wNil))))) (wNext))) (wRet (wC .none))) (wNext)) (wSeq (wIf (wOrT (wTrB (w2 gNe (w2 gIxA (wB 2) (wC (.int 0))) (wC (.str "lot")))) (wOrT (wTrB (w2 gEq (wB 4) (wTup (wNil)))) (wTrB (w2 gNe (wLc (wRng2 (wC (.int 1)) (wCall gLen (wCons (wB 4) (wNil)))) (wGn 5) (wTrB (w2 gLeI (w2 gIxA (wB 4) (wN 5)) (w2 gIxA (wB 4) (w2 gSubI (wB 5) (wC (.int 1)))))) (wN 5) [5]) (wLst (wNil)))))) (wRet (wTup (wCons (wC (.str "form")) (wNil)))) (wNext)) (wSeq (wAsg (wLc (wRng1 (wB 3)) (wGn 6) (wTrB (w2 (gInA true) (wN 6) (wB 4))) (wN 6) [6]) (wGn 7)) (wSeq (wAsg (wLc (wItems (wN 4)) (wGn 6) (wTrB (w2 gLtI (w2 gIxA (wB 1) (w2 gSubI (wB 6) (wC (.int 1)))) (wFn 3 wf_roads_to (wCons (wN 0) (wCons (wN 6) (wCons (wN 7) (wNil))))))) (wN 6) [6]) (wGn 8)) (wRet (wIfE (wTrB (w2 gNe (wB 8) (wLst (wNil)))) (wTup (wCons (wC (.str "lot")) (wCons (w2 gIxA (wB 8) (wC (.int 0))) (wNil)))) (wC .none))))))))))
theorem wk_judge_burn (Z : Fs K mg) {wf_is_whole wf_roads_to : WF} {wf : WF} (G_is_whole : FnG P w K mg base 1 Z.f_is_whole.a Z.f_is_whole.d ["value"] (spW K 1 wf_is_whole)) (G_roads_to : FnG P w K mg base 1 Z.f_roads_to.a Z.f_roads_to.d ["frame", "crossing", "lot"] (spW K 3 wf_roads_to)) (hw : ∀ ds Q, ds.length = 3 → wf ds Q → wb_judge_burn wf_is_whole wf_roads_to { nx := fun _ => Q .none, rt := Q } (startE ["frame", "powers", "value", "n", "told", "k", "crossing", "rest", "wrong", "one"] (ds.map .fz))) : FnG P w K mg base 2 Z.f_judge_burn.a Z.f_judge_burn.d ["frame", "powers", "value"] (spW K 3 wf) :=
  fn_pure (wf := wf) (wb := wb_judge_burn wf_is_whole wf_roads_to) Z.f_judge_burn.F sc_judge_burn (fun cdv A outer s H hr hG => ⟨_,
    dss_cons (ds_set 3 sc_judge_burn.nd (de_ixK K rfl (un1 hr) (fun _ _ => rfl) (do_name 0) (de_int))) (dss_cons (ds_if (DW.t (dw_or (dt_not (dt_truthK K rfl (DE.op (de_isi K rfl kit_tuple boot_tuple (by rfl) Z.n_isinstance (by rfl) Z.n_tuple (do_name 2) bt_isinstance)))) (dw_or (dt_cmp (op_neK K rfl (un64 hr)) (@rs_ne _) (by rfl) (DE.op (de_callB (cr_lenK K rfl) (@cs_len _) boot_len (by rfl) Z.n_len (da_cons (do_name 2) (da_nil)))) (DE.op (de_int))) (dw_or1 (dt_not (dt_truthK K rfl (DE.op (de_isi K rfl kit_str boot_str (by rfl) Z.n_isinstance (by rfl) Z.n_str (DE.op (de_ixK K rfl (un1 hr) (fun _ _ => rfl) (do_name 2) (de_int))) bt_isinstance)))))))) (dss_one (ds_ret (de_tup (db_cons (de_str) (db_nil))))) (dss_nil)) (dss_cons (ds_set 4 sc_judge_burn.nd (de_ixK K rfl (un1 hr) (fun _ _ => rfl) (do_name 2) (de_int))) (dss_cons (ds_if (DW.t (dw_or (dt_not (dt_truthK K rfl (DE.op (de_isi K rfl kit_tuple boot_tuple (by rfl) Z.n_isinstance (by rfl) Z.n_tuple (do_name 4) bt_isinstance)))) (dw_or1 (dt_not (dt_truthK K rfl (DE.op (de_callB (cr_allK K rfl rfl) (@cs_all _) bt_all (by rfl) Z.n_all (da_cons (DL.op (dl_lcV rfl sc_judge_burn.nd (di_itemsK K rfl (de_name 4)) [("one", 9)] (blkOk_by (N := ["frame", "powers", "value", "n", "told", "k", "crossing", "rest", "wrong", "one"]) (sc := defScope s_judge_burn) (by decide +kernel)) (fun _ _ _ _ _ => dg_name 9 sc_judge_burn.nd) (fun _ _ _ _ _ => dtt_nil) (fun _ _ _ _ _ => de_and (de_fnK K rfl (G_is_whole.mono (by decide)) hr hG Z.f_is_whole.m Z.f_is_whole.F.kp Z.f_is_whole.b (by rfl) (db_cons (de_name 9) (db_nil))) (de_one (de_chain op_lt (@rs_ltI _) op_lt (@rs_ltI _) (DE.op (de_int)) (do_name 9) (do_name 3)))) (by decide))) (da_nil))))))))) (dss_one (ds_ret (de_tup (db_cons (de_str) (db_nil))))) (dss_nil)) (dss_cons (ds_if (DW.t (dw_and (dt_cmp (op_eqK K rfl (un64 hr)) (@rs_eq _) (by rfl) (DE.op (de_ixK K rfl (un1 hr) (fun _ _ => rfl) (do_name 2) (de_int))) (DE.op (de_str))) (dw_and1 (dt_cmp (op_eqK K rfl (un64 hr)) (@rs_eq _) (by rfl) (DL.op (dl_callB (cr_sortedK K rfl rfl (un70 hr)) (@cs_sorted _) bt_sorted (by rfl) Z.n_sorted (da_cons (do_name 4) (da_nil)))) (DL.op (dl_listRg rfl (by rfl) Z.n_list (drg_2 (by rfl) Z.n_range (DE.op (de_int)) (do_name 3)))))))) (dss_cons (ds_for PassesOwn.never rfl (di_enumK K rfl (by rfl) Z.n_enumerate (de_name 4)) (dg_tupK K rfl rfl (dgs_cons (dg_name 5 sc_judge_burn.nd) (dgs_cons (dg_name 6 sc_judge_burn.nd) (dgs_nil)))) (dss_one (ds_if (dt_cmp op_ge (@rs_geI _) (by rfl) (DE.op (de_ixK K rfl (un1 hr) (fun _ _ => rfl) (do_name 1) (de_op op_sub (@rs_subI _) (do_name 6) (DE.op (de_int))))) (DE.op (de_fnK K rfl (G_roads_to.mono (by decide)) hr hG Z.f_roads_to.m Z.f_roads_to.F.kp Z.f_roads_to.b (by rfl) (db_cons (de_name 0) (db_cons (de_name 6) (db_cons (de_tup (db_cons (de_int) (db_star K rfl (DE.op (de_sliceK K rfl (do_name 4) (dpo_none) (dpo_some (do_name 5)))) (db_nil)))) (db_nil))))))) (dss_one (ds_ret (de_tup (db_cons (de_str) (db_cons (de_name 5) (db_nil)))))) (dss_nil)))) (dss_one (ds_ret (de_non)))) (dss_nil)) (dss_cons (ds_if (DW.t (dw_or (dt_cmp (op_neK K rfl (un64 hr)) (@rs_ne _) (by rfl) (DE.op (de_ixK K rfl (un1 hr) (fun _ _ => rfl) (do_name 2) (de_int))) (DE.op (de_str))) (dw_or (dt_cmp (op_eqK K rfl (un64 hr)) (@rs_eq _) (by rfl) (do_name 4) (DE.op (de_tup (db_nil)))) (dw_or1 (dt_cmp (op_neK K rfl (un64 hr)) (@rs_ne _) (by rfl) (DL.op (dl_lcV rfl sc_judge_burn.nd (di_range2 (by rfl) Z.n_range (DE.op (de_int)) (DE.op (de_callB (cr_lenK K rfl) (@cs_len _) boot_len (by rfl) Z.n_len (da_cons (do_name 4) (da_nil))))) [("k", 5)] (blkOk_by (N := ["frame", "powers", "value", "n", "told", "k", "crossing", "rest", "wrong", "one"]) (sc := defScope s_judge_burn) (by decide +kernel)) (fun _ _ _ _ _ => dg_name 5 sc_judge_burn.nd) (fun _ _ _ _ _ => dtt_one (dt_cmp op_le (@rs_leI _) (by rfl) (DE.op (de_ixK K rfl (un1 hr) (fun _ _ => rfl) (do_name 4) (de_name 5))) (DE.op (de_ixK K rfl (un1 hr) (fun _ _ => rfl) (do_name 4) (de_op op_sub (@rs_subI _) (do_name 5) (DE.op (de_int))))))) (fun _ _ _ _ _ => de_name 5) (by decide))) (DL.op (dl_lst (db_nil)))))))) (dss_one (ds_ret (de_tup (db_cons (de_str) (db_nil))))) (dss_nil)) (dss_cons (ds_set 7 sc_judge_burn.nd (DL.fr (dl_lcV rfl sc_judge_burn.nd (di_range1 (by rfl) Z.n_range (do_name 3)) [("crossing", 6)] (blkOk_by (N := ["frame", "powers", "value", "n", "told", "k", "crossing", "rest", "wrong", "one"]) (sc := defScope s_judge_burn) (by decide +kernel)) (fun _ _ _ _ _ => dg_name 6 sc_judge_burn.nd) (fun _ _ _ _ _ => dtt_one (dt_cmp1 (op_notInK K rfl (un65 hr)) (@rs_notIn _) (by rfl) (de_name 6) (do_name 4))) (fun _ _ _ _ _ => de_name 6) (by decide)))) (dss_cons (ds_lcF 8 rfl sc_judge_burn.nd (di_itemsK K rfl (de_name 4)) [("crossing", 6)] (blkOk_by (N := ["frame", "powers", "value", "n", "told", "k", "crossing", "rest", "wrong", "one"]) (sc := defScope s_judge_burn) (by decide +kernel)) (fun _ _ _ _ _ => dg_name 6 sc_judge_burn.nd) (fun _ _ _ _ _ => dtt_one (dt_cmp op_lt (@rs_ltI _) (by rfl) (DE.op (de_ixK K rfl (un1 hr) (fun _ _ => rfl) (do_name 1) (de_op op_sub (@rs_subI _) (do_name 6) (DE.op (de_int))))) (DE.op (de_fnK K rfl (G_roads_to.mono (by decide)) hr hG Z.f_roads_to.m Z.f_roads_to.F.kp Z.f_roads_to.b (by rfl) (db_cons (de_name 0) (db_cons (de_name 6) (db_cons (de_name 7) (db_nil)))))))) (fun _ _ _ _ _ => de_name 6) (by decide)) (dss_one (ds_ret (de_ifExp (dt_cmp (op_neK K rfl (un64 hr)) (@rs_ne _) (by rfl) (do_name 8) (DL.op (dl_lst (db_nil)))) (de_tup (db_cons (de_str) (db_cons (de_ixK K rfl (un1 hr) (fun _ _ => rfl) (do_name 8) (de_int)) (db_nil)))) (de_non)))))))))))⟩) hw
theorem wk__law_source (Z : Fs K mg) : FnG P w K mg base 1 Z.f__law_source.a Z.f__law_source.d ["script"] (spSource K) := fn_source Z.f__law_source.F sc__law_source fun cdv A outer s H =>
  pss_cons (ps_set (i := 1) sc__law_source.nd rfl (.inl rfl) pe_int) (pss_cons (ps_for PassesOwn.never rfl (pi_list (pv 0)) (pg_name (i := 2) sc__law_source.nd rfl (.inl rfl)) (pss_one (ps_set (i := 1) sc__law_source.nd rfl (.inl rfl) (pe_op op_mod (pe_callTy call_int1 (by rfl) Z.n_int boot_int (pa_cons (pe_op op_add (pe_op op_add (pe_op op_mul (pv 1) pe_int) (pe_op op_mul (pv 2) pe_int)) pe_int) pa_nil)) pe_int))))
    (pss_one (ps_ret (pe_disp (pps_cons pe_str (pe_revL (pe_lc (own := [("cell", 2)]) (g := gName 2) (tt := tYes) (te := tCB rAbs1 (tCons (tVar 2) tNil)) rfl sc__law_source.nd (pi_list (pv 0)) (blkOk_by (N := ["script", "mixed", "cell"]) (sc := defScope s__law_source) (own := [("cell", 2)]) (by decide +kernel)) (fun _ _ _ _ _ => pg_name (i := 2) sc__law_source.nd rfl (.inl rfl)) (fun _ _ _ _ _ => pts_nil) (fun _ _ _ _ _ => pe_callB call_abs (by rfl) Z.n_abs bt_abs (pa_cons (pv 2) pa_nil)))) (pps_cons pe_str pe_int (pps_cons pe_str (pv 1) (pps_cons pe_str pe_int pps_nil)))) rfl rfl (fun h => nomatch h) (by decide)))))
theorem wk__law_pick (Z : Fs K mg) : FnG P w K mg base 1 Z.f__law_pick.a Z.f__law_pick.d ["source", "many"] (spS K 1 wfPick) := fn_pick Z.f__law_pick.F sc__law_pick fun cdv A outer s H hr =>
  pss_cons (ps_while PassesOwn.never (pw_and (pt_cmpR op_gt (pv 1) (pe_int) (by rfl)) (pw_and (pt_cmpR op_lt (pe_dget (un1 hr) (pv 0) pe_str (fun _ _ => rfl)) (pe_int) (by rfl)) (pw_and1 (pt_cmpR op_gt (pe_callB call_len_seq (by rfl) Z.n_len boot_len (pa_cons (pe_dget (un1 hr) (pv 0) pe_str (fun _ _ => rfl)) pa_nil)) (pe_int) (by rfl))))).pt (pss_one (ps_dput (un1 hr) (pv 0) pe_str (pe_bm0 PySem.F.plainAttrs_list PySem.F.slot_list_pop PySem.F.type_list_pop mt_pop (pe_dget (un1 hr) (pv 0) pe_str (fun _ _ => rfl))) (by rfl))))
  (pss_cons (ps_set (i := 2) sc__law_pick.nd rfl (.inl rfl) (pe_dget (un1 hr) (pv 0) pe_str (fun _ _ => rfl)))
  (pss_cons (ps_if (pw_or (pt_cmpR op_lt (pv 1) (pe_int) (by rfl)) (pw_or1 (pt_cmpR op_gt (pv 2) (pe_int) (by rfl)))).pt (pss_cons (ps_dput (un1 hr) (pv 0) pe_str (pe_op op_fdiv (pv 2) (pe_callB (call_max2 rfl) (by rfl) Z.n_max bt_max (pa_cons pe_int (pa_cons (pv 1) pa_nil)))) (by rfl)) (pss_one (ps_ret (pe_op op_mod (pe_callTy call_int1 (by rfl) Z.n_int boot_int (pa_cons (pv 2) pa_nil)) (pe_callB (call_max2 rfl) (by rfl) Z.n_max bt_max (pa_cons pe_int (pa_cons (pv 1) pa_nil))))))) pss_nil)
  (pss_cons (ps_dput (un1 hr) (pv 0) pe_str (pe_op op_add (pe_dget (un1 hr) (pv 0) pe_str (fun _ _ => rfl)) pe_int) (by rfl))
  (pss_cons (ps_set (i := 3) sc__law_pick.nd rfl (.inl rfl) (pe_op op_mod (pe_callTy call_int1 (by rfl) Z.n_int boot_int (pa_cons (pe_op op_add (pe_dget (un1 hr) (pv 0) pe_str (fun _ _ => rfl)) (pe_op op_mul (pe_dget (un1 hr) (pv 0) pe_str (fun _ _ => rfl)) pe_int)) pa_nil)) pe_int))
  (pss_cons (ps_set (i := 3) sc__law_pick.nd rfl (.inl rfl) (pe_op op_mod (pe_callTy call_int1 (by rfl) Z.n_int boot_int (pa_cons (pe_op op_add (pe_op op_mul (pv 3) (pv 3)) (pe_op op_mul (pe_dget (un1 hr) (pv 0) pe_str (fun _ _ => rfl)) pe_int)) pa_nil)) pe_int))
  (pss_cons (ps_dput (un1 hr) (pv 0) pe_str (pv 3) (by rfl))
  (pss_one (ps_ret (pe_op op_mod (pe_callTy call_int1 (by rfl) Z.n_int boot_int (pa_cons (pe_op op_fdiv (pv 3) pe_int) pa_nil)) (pv 1)))))))))) 
def wb__law_of : WS :=
  wRet (w2 gIxA (wB 1) (wFnS 0 1 wfPick (wCons (wCall gLen (wCons (wB 1) (wNil))) (wNil))))
theorem wk__law_of (Z : Fs K mg) {wf : WF} (G__law_pick : FnG P w K mg base 1 Z.f__law_pick.a Z.f__law_pick.d ["source", "many"] (spS K 1 wfPick)) (hw : ∀ ds Q, ds.length = 1 → wf ds Q → wb__law_of { nx := fun _ => Q .none, rt := Q } (startE ["source", "some"] (.src :: ds.map .fz))) : FnG P w K mg base 2 Z.f__law_of.a Z.f__law_of.d ["source", "some"] (spS K 1 wf) :=
  fn_src (wf := wf) (wb := wb__law_of) Z.f__law_of.F sc__law_of (fun cdv A outer s H hr hG => ⟨_,
    dss_one (ds_ret (de_ixK K rfl (un1 hr) (fun _ _ => rfl) (do_name 1) (de_fnSK K rfl 0 (G__law_pick.mono (by decide)) hr hG Z.f__law_pick.m Z.f__law_pick.F.kp Z.f__law_pick.b (by rfl) (pv 0) (db_cons (de_callB (cr_lenK K rfl) (@cs_len _) boot_len (by rfl) Z.n_len (da_cons (do_name 1) (da_nil))) (db_nil)))))⟩) hw
theorem wk__law_mixed (Z : Fs K mg) (G_pick : FnG P w K mg base 1 Z.f__law_pick.a Z.f__law_pick.d ["source", "many"] (spS K 1 wfPick)) : FnG P w K mg base 2 Z.f__law_mixed.a Z.f__law_mixed.d ["source", "things"] (spS K 1 wfMixed) := fn_mixed Z.f__law_mixed.F sc__law_mixed fun cdv A outer s H hr hG =>
  pss_cons (ps_set (i := 2) sc__law_mixed.nd rfl (.inr rfl) (pe_callTy call_list_of (by rfl) Z.n_list boot_list (pa_cons (pv 1) pa_nil))) (pss_one (ps_ret (pe_lc (own := [("lap", 3)]) (g := gName 3) (tt := tYes) (te := tBM K "list" rPopAt (tVar 2) (tCons (tPickLen K 0 2) tNil)) rfl sc__law_mixed.nd (pi_range1 (by rfl) Z.n_range (pa_cons (pe_callB call_len_seq (by rfl) Z.n_len boot_len (pa_cons (pv 2) pa_nil)) pa_nil)) (blkOk_by (N := ["source", "things", "rest", "lap"]) (sc := defScope s__law_mixed) (own := [("lap", 3)]) (by decide +kernel)) (fun _ _ _ _ _ => pg_name (i := 3) sc__law_mixed.nd rfl (.inl rfl) (.inr rfl)) (fun _ _ _ _ _ => pts_nil)
    (fun _ _ _ _ _ => pe_bm PySem.F.plainAttrs_list PySem.F.slot_list_pop PySem.F.type_list_pop mt_popAt (pv 2) (pa_cons (pe_callG (G_pick.mono (by decide)) hr hG (by rfl) Z.f__law_pick.m Z.f__law_pick.F.kp Z.f__law_pick.b (pa_cons (pv 0) (pa_cons (pe_callB call_len_seq (by rfl) Z.n_len boot_len (pa_cons (pv 2) pa_nil)) pa_nil))) pa_nil)))))
def wb__law_frame : WS :=
  wSeq (wAsg (w2 gAdd (wC (.int 1)) (wFnS 0 1 wfPick (wCons (wN 1) (wNil)))) (wGn 3)) (wSeq (wAsgL (wLc (wRng2 (wC (.int 1)) (wB 3)) (wGn 7) (wYes) (wTup (wCons (wFnS 0 1 wfPick (wCons (wN 7) (wNil))) (wCons (wN 7) (wNil)))) [7]) 4) (wSeq (wFor (wRng1 (wFnS 0 1 wfPick (wCons (wCall gMin2 (wCons (wC (.int 5)) (wCons (w2 gAdd (w2 gSubI (wB 2) (wB 3)) (wC (.int 2))) (wNil)))) (wNil)))) (wGn 5) (wMutE 4 gAppend (wCons (wTup (wCons (wFnS 0 1 wfPick (wCons (wN 3) (wNil))) (wCons (wFnS 0 1 wfPick (wCons (wN 3) (wNil))) (wNil)))) (wNil)) (fun _ η Q => Q η))) (wFrz 4 (wSeq (wAsg (wLc (wItems (wN 4)) (wGt 2 (wGcons (wGn 8) (wGcons (wGn 9) (wGnil)))) (wYes) (wIfE (wTrB (w2 gEq (wFnS 0 1 wfPick (wCons (wC (.int 2)) (wNil))) (wC (.int 0)))) (wTup (wCons (wN 9) (wCons (wN 8) (wNil)))) (wTup (wCons (wN 8) (wCons (wN 9) (wNil))))) [8, 9]) (wGn 6)) (wRet (wTup (wCons (wN 3) (wCons (wCall gTuple (wCons (wFnS 0 1 wfMixed (wCons (wN 6) (wNil))) (wNil))) (wNil)))))))))
theorem wk__law_frame (Z : Fs K mg) {wf : WF} (G__law_pick : FnG P w K mg base 1 Z.f__law_pick.a Z.f__law_pick.d ["source", "many"] (spS K 1 wfPick)) (G__law_mixed : FnG P w K mg base 2 Z.f__law_mixed.a Z.f__law_mixed.d ["source", "things"] (spS K 1 wfMixed)) (hw : ∀ ds Q, ds.length = 2 → wf ds Q → wb__law_frame { nx := fun _ => Q .none, rt := Q } (startE ["source", "crossings", "roads", "n", "pairs", "lap", "turned", "v", "a", "b"] (.src :: ds.map .fz))) : FnG P w K mg base 3 Z.f__law_frame.a Z.f__law_frame.d ["source", "crossings", "roads"] (spS K 2 wf) :=
  fn_src (wf := wf) (wb := wb__law_frame) Z.f__law_frame.F sc__law_frame (fun cdv A outer s H hr hG => ⟨_,
    dss_cons (ds_set 3 sc__law_frame.nd (de_op (op_addK K rfl) (@rs_add _) (DE.op (de_int)) (DE.op (de_fnSK K rfl 0 (G__law_pick.mono (by decide)) hr hG Z.f__law_pick.m Z.f__law_pick.F.kp Z.f__law_pick.b (by rfl) (pv 0) (db_cons (de_name 1) (db_nil)))))) (dss_cons (ds_lcL 4 rfl sc__law_frame.nd (di_range2 (by rfl) Z.n_range (DE.op (de_int)) (do_name 3)) [("v", 7)] (blkOk_by (N := ["source", "crossings", "roads", "n", "pairs", "lap", "turned", "v", "a", "b"]) (sc := defScope s__law_frame) (by decide +kernel)) (fun _ _ _ _ _ => dg_name 7 sc__law_frame.nd) (fun _ _ _ _ _ => dtt_nil) (fun _ _ _ _ _ => de_tup (db_cons (de_fnSK K rfl 0 (G__law_pick.mono (by decide)) hr hG Z.f__law_pick.m Z.f__law_pick.F.kp Z.f__law_pick.b (by rfl) (pv 0) (db_cons (de_name 7) (db_nil))) (db_cons (de_name 7) (db_nil)))) (by decide)) (dss_cons (ds_for PassesOwn.never rfl (di_range1 (by rfl) Z.n_range (DE.op (de_fnSK K rfl 0 (G__law_pick.mono (by decide)) hr hG Z.f__law_pick.m Z.f__law_pick.F.kp Z.f__law_pick.b (by rfl) (pv 0) (db_cons (de_callB (call_min2 rfl) (@cs_min2 _) bt_min (by rfl) Z.n_min (da_cons (DE.op (de_int)) (da_cons (DE.op (de_op (op_addK K rfl) (@rs_add _) (DE.op (de_op op_sub (@rs_subI _) (do_name 2) (do_name 3))) (DE.op (de_int)))) (da_nil)))) (db_nil))))) (dg_name 5 sc__law_frame.nd) (dss_one (ds_append 4 (db_cons (de_tup (db_cons (de_fnSK K rfl 0 (G__law_pick.mono (by decide)) hr hG Z.f__law_pick.m Z.f__law_pick.F.kp Z.f__law_pick.b (by rfl) (pv 0) (db_cons (de_name 3) (db_nil))) (db_cons (de_fnSK K rfl 0 (G__law_pick.mono (by decide)) hr hG Z.f__law_pick.m Z.f__law_pick.F.kp Z.f__law_pick.b (by rfl) (pv 0) (db_cons (de_name 3) (db_nil))) (db_nil)))) (db_nil)) (pv 4)))) (dss_frz 4 (dss_cons (ds_lcF 6 rfl sc__law_frame.nd (di_itemsK K rfl (de_name 4)) [("a", 8), ("b", 9)] (blkOk_by (N := ["source", "crossings", "roads", "n", "pairs", "lap", "turned", "v", "a", "b"]) (sc := defScope s__law_frame) (by decide +kernel)) (fun _ _ _ _ _ => dg_tupK K rfl rfl (dgs_cons (dg_name 8 sc__law_frame.nd) (dgs_cons (dg_name 9 sc__law_frame.nd) (dgs_nil)))) (fun _ _ _ _ _ => dtt_nil) (fun _ _ _ _ _ => de_ifExp (dt_cmp (op_eqK K rfl (un64 hr)) (@rs_eq _) (by rfl) (DE.op (de_fnSK K rfl 0 (G__law_pick.mono (by decide)) hr hG Z.f__law_pick.m Z.f__law_pick.F.kp Z.f__law_pick.b (by rfl) (pv 0) (db_cons (de_int) (db_nil)))) (DE.op (de_int))) (de_tup (db_cons (de_name 9) (db_cons (de_name 8) (db_nil)))) (de_tup (db_cons (de_name 8) (db_cons (de_name 9) (db_nil))))) (by decide)) (dss_one (ds_ret (de_tup (db_cons (de_name 3) (db_cons (de_callT (cr_tupleK K rfl) (@cs_tuple _) boot_tuple (by rfl) Z.n_tuple (da_cons (DE.op (de_fnSK K rfl 0 (G__law_mixed.mono (by decide)) hr hG Z.f__law_mixed.m Z.f__law_mixed.F.kp Z.f__law_mixed.b (by rfl) (pv 0) (db_cons (de_name 6) (db_nil)))) (da_nil))) (db_nil))))))))))⟩) hw
def wb__law_ways_out : WS :=
  wRet (wCall gLen (wCons (wLc (wItems (w2 gIxA (wB 0) (wC (.int 1)))) (wGt 2 (wGcons (wGn 3) (wGcons (wGn 4) (wGnil)))) (wOrT (wAndT (wTrB (w2 gEq (wB 3) (wB 1))) (wTrB (w2 (gInA true) (wN 4) (wB 2)))) (wAndT (wTrB (w2 gEq (wB 4) (wB 1))) (wTrB (w2 (gInA true) (wN 3) (wB 2))))) (wC (.int 1)) [3, 4]) (wNil)))
theorem wk__law_ways_out (Z : Fs K mg) {wf : WF} (hw : ∀ ds Q, ds.length = 3 → wf ds Q → wb__law_ways_out { nx := fun _ => Q .none, rt := Q } (startE ["frame", "crossing", "lot", "a", "b"] (ds.map .fz))) : FnG P w K mg base 1 Z.f__law_ways_out.a Z.f__law_ways_out.d ["frame", "crossing", "lot"] (spW K 3 wf) :=
  fn_pure (wf := wf) (wb := wb__law_ways_out) Z.f__law_ways_out.F sc__law_ways_out (fun cdv A outer s H hr hG => ⟨_,
    dss_one (ds_ret (de_callB (cr_lenK K rfl) (@cs_len _) boot_len (by rfl) Z.n_len (da_cons (DL.op (dl_lcV rfl sc__law_ways_out.nd (di_itemsK K rfl (de_ixK K rfl (un1 hr) (fun _ _ => rfl) (do_name 0) (de_int))) [("a", 3), ("b", 4)] (blkOk_by (N := ["frame", "crossing", "lot", "a", "b"]) (sc := defScope s__law_ways_out) (by decide +kernel)) (fun _ _ _ _ _ => dg_tupK K rfl rfl (dgs_cons (dg_name 3 sc__law_ways_out.nd) (dgs_cons (dg_name 4 sc__law_ways_out.nd) (dgs_nil)))) (fun _ _ _ _ _ => dtt_one (DW.t (dw_or (DW.t (dw_and (dt_cmp (op_eqK K rfl (un64 hr)) (@rs_eq _) (by rfl) (do_name 3) (do_name 1)) (dw_and1 (dt_cmp1 (op_notInK K rfl (un65 hr)) (@rs_notIn _) (by rfl) (de_name 4) (do_name 2))))) (dw_or1 (DW.t (dw_and (dt_cmp (op_eqK K rfl (un64 hr)) (@rs_eq _) (by rfl) (do_name 4) (do_name 1)) (dw_and1 (dt_cmp1 (op_notInK K rfl (un65 hr)) (@rs_notIn _) (by rfl) (de_name 3) (do_name 2))))))))) (fun _ _ _ _ _ => de_int) (by decide))) (da_nil))))⟩) hw
def wb__law_crossing_lots : WS :=
  wSeq (wAsg (wLst (wCons (wTup (wNil)) (wNil))) (wGn 1)) (wSeq (wFor (wRng2 (wC (.int 1)) (wB 0)) (wGn 2) (wAsg (w2 gCat (wB 1) (wLc (wItems (wN 1)) (wGn 3) (wYes) (w2 gAdd (wB 3) (wTup (wCons (wN 2) (wNil)))) [3])) (wGn 1))) (wRet (wCall gSorted (wCons (wSl (wB 1) (wPart (wC (.int 1))) (wNoPart)) (wNil)))))
theorem wk__law_crossing_lots (Z : Fs K mg) {wf : WF} (hw : ∀ ds Q, ds.length = 1 → wf ds Q → wb__law_crossing_lots { nx := fun _ => Q .none, rt := Q } (startE ["n", "found", "crossing", "lot"] (ds.map .fz))) : FnG P w K mg base 1 Z.f__law_crossing_lots.a Z.f__law_crossing_lots.d ["n"] (spW K 1 wf) :=
  fn_pure (wf := wf) (wb := wb__law_crossing_lots) Z.f__law_crossing_lots.F sc__law_crossing_lots (fun cdv A outer s H hr hG => ⟨_,
    dss_cons (ds_set 1 sc__law_crossing_lots.nd (DL.fr (dl_lst (db_cons (de_tup (db_nil)) (db_nil))))) (dss_cons (ds_for PassesOwn.never rfl (di_range2 (by rfl) Z.n_range (DE.op (de_int)) (do_name 0)) (dg_name 2 sc__law_crossing_lots.nd) (dss_one (ds_set 1 sc__law_crossing_lots.nd (DL.fr (dl_op op_cat (@rs_cat _) (do_name 1) (DL.op (dl_lcV rfl sc__law_crossing_lots.nd (di_itemsK K rfl (de_name 1)) [("lot", 3)] (blkOk_by (N := ["n", "found", "crossing", "lot"]) (sc := defScope s__law_crossing_lots) (by decide +kernel)) (fun _ _ _ _ _ => dg_name 3 sc__law_crossing_lots.nd) (fun _ _ _ _ _ => dtt_nil) (fun _ _ _ _ _ => de_op (op_addK K rfl) (@rs_add _) (do_name 3) (DE.op (de_tup (db_cons (de_name 2) (db_nil))))) (by decide)))))))) (dss_one (ds_ret (DL.fr (dl_callB (cr_sortedK K rfl rfl (un70 hr)) (@cs_sorted _) bt_sorted (by rfl) Z.n_sorted (da_cons (DE.op (de_sliceK K rfl (do_name 1) (dpo_some (DE.op (de_int))) (dpo_none))) (da_nil)))))))⟩) hw
def wb__law_lot_kept (wf__law_crossing_lots wf__law_ways_out : WF) : WS :=
  wSeq (wFor (wItems (wFn 1 wf__law_crossing_lots (wCons (w2 gIxA (wB 0) (wC (.int 0))) (wNil)))) (wGn 2) (wIf (wTrB (w2 gEq (wLc (wItems (wN 2)) (wGn 3) (wTrB (w2 gLtI (w2 gIxA (wB 1) (w2 gSubI (wB 3) (wC (.int 1)))) (wFn 3 wf__law_ways_out (wCons (wN 0) (wCons (wN 3) (wCons (wN 2) (wNil))))))) (wN 3) [3]) (wLst (wNil)))) (wRet (wN 2)) (wNext))) (wRet (wC .none))
theorem wk__law_lot_kept (Z : Fs K mg) {wf__law_crossing_lots wf__law_ways_out : WF} {wf : WF} (G__law_crossing_lots : FnG P w K mg base 1 Z.f__law_crossing_lots.a Z.f__law_crossing_lots.d ["n"] (spW K 1 wf__law_crossing_lots)) (G__law_ways_out : FnG P w K mg base 1 Z.f__law_ways_out.a Z.f__law_ways_out.d ["frame", "crossing", "lot"] (spW K 3 wf__law_ways_out)) (hw : ∀ ds Q, ds.length = 2 → wf ds Q → wb__law_lot_kept wf__law_crossing_lots wf__law_ways_out { nx := fun _ => Q .none, rt := Q } (startE ["frame", "powers", "lot", "c"] (ds.map .fz))) : FnG P w K mg base 2 Z.f__law_lot_kept.a Z.f__law_lot_kept.d ["frame", "powers"] (spW K 2 wf) :=
  fn_pure (wf := wf) (wb := wb__law_lot_kept wf__law_crossing_lots wf__law_ways_out) Z.f__law_lot_kept.F sc__law_lot_kept (fun cdv A outer s H hr hG => ⟨_,
    dss_cons (ds_for PassesOwn.never rfl (di_itemsK K rfl (de_fnK K rfl (G__law_crossing_lots.mono (by decide)) hr hG Z.f__law_crossing_lots.m Z.f__law_crossing_lots.F.kp Z.f__law_crossing_lots.b (by rfl) (db_cons (de_ixK K rfl (un1 hr) (fun _ _ => rfl) (do_name 0) (de_int)) (db_nil)))) (dg_name 2 sc__law_lot_kept.nd) (dss_one (ds_if (dt_cmp (op_eqK K rfl (un64 hr)) (@rs_eq _) (by rfl) (DL.op (dl_lcV rfl sc__law_lot_kept.nd (di_itemsK K rfl (de_name 2)) [("c", 3)] (blkOk_by (N := ["frame", "powers", "lot", "c"]) (sc := defScope s__law_lot_kept) (by decide +kernel)) (fun _ _ _ _ _ => dg_name 3 sc__law_lot_kept.nd) (fun _ _ _ _ _ => dtt_one (dt_cmp op_lt (@rs_ltI _) (by rfl) (DE.op (de_ixK K rfl (un1 hr) (fun _ _ => rfl) (do_name 1) (de_op op_sub (@rs_subI _) (do_name 3) (DE.op (de_int))))) (DE.op (de_fnK K rfl (G__law_ways_out.mono (by decide)) hr hG Z.f__law_ways_out.m Z.f__law_ways_out.F.kp Z.f__law_ways_out.b (by rfl) (db_cons (de_name 0) (db_cons (de_name 3) (db_cons (de_name 2) (db_nil)))))))) (fun _ _ _ _ _ => de_name 3) (by decide))) (DL.op (dl_lst (db_nil)))) (dss_one (ds_ret (de_name 2))) (dss_nil)))) (dss_one (ds_ret (de_non)))⟩) hw
def wb__law_is_int : WS :=
  wRet (wAndV (wIsi "int" (wB 0)) (w1 gNotB (wIsi "bool" (wB 0))))
theorem wk__law_is_int (Z : Fs K mg) {wf : WF} (hw : ∀ ds Q, ds.length = 1 → wf ds Q → wb__law_is_int { nx := fun _ => Q .none, rt := Q } (startE ["value"] (ds.map .fz))) : FnG P w K mg base 1 Z.f__law_is_int.a Z.f__law_is_int.d ["value"] (spW K 1 wf) :=
  fn_pure (wf := wf) (wb := wb__law_is_int) Z.f__law_is_int.F sc__law_is_int (fun cdv A outer s H hr hG => ⟨_,
    dss_one (ds_ret (de_and (de_isi K rfl kit_int boot_int (by rfl) Z.n_isinstance (by rfl) Z.n_int (do_name 0) bt_isinstance) (de_one (de_not (de_isi K rfl kit_bool boot_bool (by rfl) Z.n_isinstance (by rfl) Z.n_bool (do_name 0) bt_isinstance)))))⟩) hw
def wb__law_are_powers (wf__law_is_int : WF) : WS :=
  wSeq (wIf (wOrT (wNotT (wTr (wIsi "tuple" (wB 1)))) (wTrB (w2 gNe (wCall gLen (wCons (wB 1) (wNil))) (w2 gSubI (wB 0) (wC (.int 1)))))) (wRet (wC (.bool false))) (wNext)) (wRet (w2 gEq (wLc (wItems (wN 1)) (wGn 2) (wOrT (wNotT (wTr (wFn 1 wf__law_is_int (wCons (wN 2) (wNil))))) (wTrB (w2 gLtI (wB 2) (wC (.int 0))))) (wN 2) [2]) (wLst (wNil))))
theorem wk__law_are_powers (Z : Fs K mg) {wf__law_is_int : WF} {wf : WF} (G__law_is_int : FnG P w K mg base 1 Z.f__law_is_int.a Z.f__law_is_int.d ["value"] (spW K 1 wf__law_is_int)) (hw : ∀ ds Q, ds.length = 2 → wf ds Q → wb__law_are_powers wf__law_is_int { nx := fun _ => Q .none, rt := Q } (startE ["n", "value", "one"] (ds.map .fz))) : FnG P w K mg base 2 Z.f__law_are_powers.a Z.f__law_are_powers.d ["n", "value"] (spW K 2 wf) :=
  fn_pure (wf := wf) (wb := wb__law_are_powers wf__law_is_int) Z.f__law_are_powers.F sc__law_are_powers (fun cdv A outer s H hr hG => ⟨_,
    dss_cons (ds_if (DW.t (dw_or (dt_not (dt_truthK K rfl (DE.op (de_isi K rfl kit_tuple boot_tuple (by rfl) Z.n_isinstance (by rfl) Z.n_tuple (do_name 1) bt_isinstance)))) (dw_or1 (dt_cmp (op_neK K rfl (un64 hr)) (@rs_ne _) (by rfl) (DE.op (de_callB (cr_lenK K rfl) (@cs_len _) boot_len (by rfl) Z.n_len (da_cons (do_name 1) (da_nil)))) (DE.op (de_op op_sub (@rs_subI _) (do_name 0) (DE.op (de_int)))))))) (dss_one (ds_ret (de_bl))) (dss_nil)) (dss_one (ds_ret (de_cmp (op_eqK K rfl (un64 hr)) (@rs_eq _) (by rfl) (DL.op (dl_lcV rfl sc__law_are_powers.nd (di_itemsK K rfl (de_name 1)) [("one", 2)] (blkOk_by (N := ["n", "value", "one"]) (sc := defScope s__law_are_powers) (by decide +kernel)) (fun _ _ _ _ _ => dg_name 2 sc__law_are_powers.nd) (fun _ _ _ _ _ => dtt_one (DW.t (dw_or (dt_not (dt_truthK K rfl (DE.op (de_fnK K rfl (G__law_is_int.mono (by decide)) hr hG Z.f__law_is_int.m Z.f__law_is_int.F.kp Z.f__law_is_int.b (by rfl) (db_cons (de_name 2) (db_nil)))))) (dw_or1 (dt_cmp op_lt (@rs_ltI _) (by rfl) (do_name 2) (DE.op (de_int))))))) (fun _ _ _ _ _ => de_name 2) (by decide))) (DL.op (dl_lst (db_nil))))))⟩) hw
def wb__law_fault (wf__law_is_int wf__law_ways_out : WF) : WS :=
  wSeq (wAsg (w2 gIxA (wB 0) (wC (.int 0))) (wGn 3)) (wSeq (wIf (wOrT (wNotT (wTr (wIsi "tuple" (wB 2)))) (wOrT (wTrB (w2 gNe (wCall gLen (wCons (wB 2) (wNil))) (wC (.int 2)))) (wTrB (w2 (gInA true) (wCall gRepr (wCons (w2 gIxA (wB 2) (wC (.int 0))) (wNil))) (wTup (wCons (wC (.str "'burns'")) (wCons (wC (.str "'lot'")) (wNil)))))))) (wRet (wTup (wCons (wC (.str "form")) (wNil)))) (wNext)) (wSeq (wAsg (w2 gIxA (wB 2) (wC (.int 1))) (wGn 4)) (wSeq (wIf (wOrT (wNotT (wTr (wIsi "tuple" (wB 4)))) (wTrB (w2 gNe (wLc (wItems (wN 4)) (wGn 9) (wOrT (wNotT (wTr (wFn 1 wf__law_is_int (wCons (wN 9) (wNil))))) (wNotT (wTrB (wChain gLtI gLtI (wC (.int 0)) (wB 9) (wB 3))))) (wN 9) [9]) (wLst (wNil))))) (wRet (wTup (wCons (wC (.str "form")) (wNil)))) (wNext)) (wSeq (wIf (wTrB (w2 gEq (w2 gIxA (wB 2) (wC (.int 0))) (wC (.str "burns")))) (wSeq (wIf (wTrB (w2 gNe (wCall gSorted (wCons (wB 4) (wNil))) (wLstRg (wR2 (wC (.int 1)) (wB 3))))) (wRet (wTup (wCons (wC (.str "form")) (wNil)))) (wNext)) (wSeq (wFor (wEnum (wN 4)) (wGt 2 (wGcons (wGn 5) (wGcons (wGn 6) (wGnil)))) (wSeq (wAsg (wLc (wRng1 (wB 3)) (wGn 9) (wAndT (wTrB (w2 gNe (wB 9) (wC (.int 0)))) (wTrB (w2 (gInA true) (wN 9) (wSl (wB 4) (wNoPart) (wPart (wB 5)))))) (wN 9) [9]) (wGn 7)) (wIf (wTrB (w2 gGeI (w2 gIxA (wB 1) (w2 gSubI (wB 6) (wC (.int 1)))) (wFn 3 wf__law_ways_out (wCons (wN 0) (wCons (wN 6) (wCons (wN 7) (wNil))))))) (wRet (wTup (wCons (wC (.str "burns")) (wCons (wN 5) (wNil))))) (wNext)))) (wRet (wC .none)))) (wNext)) (wSeq (wIf (wOrT (wTrB (w2 gEq (wB 4) (wTup (wNil)))) (wTrB (w2 gNe (wLc (wRng2 (wC (.int 1)) (wCall gLen (wCons (wB 4) (wNil)))) (wGn 5) (wTrB (w2 gLeI (w2 gIxA (wB 4) (wN 5)) (w2 gIxA (wB 4) (w2 gSubI (wB 5) (wC (.int 1)))))) (wN 5) [5]) (wLst (wNil))))) (wRet (wTup (wCons (wC (.str "form")) (wNil)))) (wNext)) (wSeq (wAsg (wLc (wItems (wN 4)) (wGn 9) (wTrB (w2 gLtI (w2 gIxA (wB 1) (w2 gSubI (wB 9) (wC (.int 1)))) (wFn 3 wf__law_ways_out (wCons (wN 0) (wCons (wN 9) (wCons (wN 4) (wNil))))))) (wN 9) [9]) (wGn 8)) (wRet (wIfE (wTrB (w2 gNe (wB 8) (wLst (wNil)))) (wTup (wCons (wC (.str "lot")) (wCons (w2 gIxA (wB 8) (wC (.int 0))) (wNil)))) (wC .none)))))))))
theorem wk__law_fault (Z : Fs K mg) {wf__law_is_int wf__law_ways_out : WF} {wf : WF} (G__law_is_int : FnG P w K mg base 1 Z.f__law_is_int.a Z.f__law_is_int.d ["value"] (spW K 1 wf__law_is_int)) (G__law_ways_out : FnG P w K mg base 1 Z.f__law_ways_out.a Z.f__law_ways_out.d ["frame", "crossing", "lot"] (spW K 3 wf__law_ways_out)) (hw : ∀ ds Q, ds.length = 3 → wf ds Q → wb__law_fault wf__law_is_int wf__law_ways_out { nx := fun _ => Q .none, rt := Q } (startE ["frame", "powers", "value", "n", "told", "k", "crossing", "rest", "wrong", "c"] (ds.map .fz))) : FnG P w K mg base 2 Z.f__law_fault.a Z.f__law_fault.d ["frame", "powers", "value"] (spW K 3 wf) :=
  fn_pure (wf := wf) (wb := wb__law_fault wf__law_is_int wf__law_ways_out) Z.f__law_fault.F sc__law_fault (fun cdv A outer s H hr hG => ⟨_,
    dss_cons (ds_set 3 sc__law_fault.nd (de_ixK K rfl (un1 hr) (fun _ _ => rfl) (do_name 0) (de_int))) (dss_cons (ds_if (DW.t (dw_or (dt_not (dt_truthK K rfl (DE.op (de_isi K rfl kit_tuple boot_tuple (by rfl) Z.n_isinstance (by rfl) Z.n_tuple (do_name 2) bt_isinstance)))) (dw_or (dt_cmp (op_neK K rfl (un64 hr)) (@rs_ne _) (by rfl) (DE.op (de_callB (cr_lenK K rfl) (@cs_len _) boot_len (by rfl) Z.n_len (da_cons (do_name 2) (da_nil)))) (DE.op (de_int))) (dw_or1 (dt_cmp1 (op_notInK K rfl (un65 hr)) (@rs_notIn _) (by rfl) (de_callB (cr_reprK K rfl (un70 hr) hG) (@cs_repr _) bt_repr (by rfl) Z.n_repr (da_cons (DE.op (de_ixK K rfl (un1 hr) (fun _ _ => rfl) (do_name 2) (de_int))) (da_nil))) (DE.op (de_tup (db_cons (de_str) (db_cons (de_str) (db_nil)))))))))) (dss_one (ds_ret (de_tup (db_cons (de_str) (db_nil))))) (dss_nil)) (dss_cons (ds_set 4 sc__law_fault.nd (de_ixK K rfl (un1 hr) (fun _ _ => rfl) (do_name 2) (de_int))) (dss_cons (ds_if (DW.t (dw_or (dt_not (dt_truthK K rfl (DE.op (de_isi K rfl kit_tuple boot_tuple (by rfl) Z.n_isinstance (by rfl) Z.n_tuple (do_name 4) bt_isinstance)))) (dw_or1 (dt_cmp (op_neK K rfl (un64 hr)) (@rs_ne _) (by rfl) (DL.op (dl_lcV rfl sc__law_fault.nd (di_itemsK K rfl (de_name 4)) [("c", 9)] (blkOk_by (N := ["frame", "powers", "value", "n", "told", "k", "crossing", "rest", "wrong", "c"]) (sc := defScope s__law_fault) (by decide +kernel)) (fun _ _ _ _ _ => dg_name 9 sc__law_fault.nd) (fun _ _ _ _ _ => dtt_one (DW.t (dw_or (dt_not (dt_truthK K rfl (DE.op (de_fnK K rfl (G__law_is_int.mono (by decide)) hr hG Z.f__law_is_int.m Z.f__law_is_int.F.kp Z.f__law_is_int.b (by rfl) (db_cons (de_name 9) (db_nil)))))) (dw_or1 (dt_not (dt_chain op_lt (@rs_ltI _) op_lt (@rs_ltI _) (DE.op (de_int)) (do_name 9) (do_name 3))))))) (fun _ _ _ _ _ => de_name 9) (by decide))) (DL.op (dl_lst (db_nil))))))) (dss_one (ds_ret (de_tup (db_cons (de_str) (db_nil))))) (dss_nil)) (dss_cons (ds_if (dt_cmp (op_eqK K rfl (un64 hr)) (@rs_eq _) (by rfl) (DE.op (de_ixK K rfl (un1 hr) (fun _ _ => rfl) (do_name 2) (de_int))) (DE.op (de_str))) (dss_cons (ds_if (dt_cmp (op_neK K rfl (un64 hr)) (@rs_ne _) (by rfl) (DL.op (dl_callB (cr_sortedK K rfl rfl (un70 hr)) (@cs_sorted _) bt_sorted (by rfl) Z.n_sorted (da_cons (do_name 4) (da_nil)))) (DL.op (dl_listRg rfl (by rfl) Z.n_list (drg_2 (by rfl) Z.n_range (DE.op (de_int)) (do_name 3))))) (dss_one (ds_ret (de_tup (db_cons (de_str) (db_nil))))) (dss_nil)) (dss_cons (ds_for PassesOwn.never rfl (di_enumK K rfl (by rfl) Z.n_enumerate (de_name 4)) (dg_tupK K rfl rfl (dgs_cons (dg_name 5 sc__law_fault.nd) (dgs_cons (dg_name 6 sc__law_fault.nd) (dgs_nil)))) (dss_cons (ds_lcF 7 rfl sc__law_fault.nd (di_range1 (by rfl) Z.n_range (do_name 3)) [("c", 9)] (blkOk_by (N := ["frame", "powers", "value", "n", "told", "k", "crossing", "rest", "wrong", "c"]) (sc := defScope s__law_fault) (by decide +kernel)) (fun _ _ _ _ _ => dg_name 9 sc__law_fault.nd) (fun _ _ _ _ _ => dtt_one (DW.t (dw_and (dt_cmp (op_neK K rfl (un64 hr)) (@rs_ne _) (by rfl) (do_name 9) (DE.op (de_int))) (dw_and1 (dt_cmp1 (op_notInK K rfl (un65 hr)) (@rs_notIn _) (by rfl) (de_name 9) (DE.op (de_sliceK K rfl (do_name 4) (dpo_none) (dpo_some (do_name 5))))))))) (fun _ _ _ _ _ => de_name 9) (by decide)) (dss_one (ds_if (dt_cmp op_ge (@rs_geI _) (by rfl) (DE.op (de_ixK K rfl (un1 hr) (fun _ _ => rfl) (do_name 1) (de_op op_sub (@rs_subI _) (do_name 6) (DE.op (de_int))))) (DE.op (de_fnK K rfl (G__law_ways_out.mono (by decide)) hr hG Z.f__law_ways_out.m Z.f__law_ways_out.F.kp Z.f__law_ways_out.b (by rfl) (db_cons (de_name 0) (db_cons (de_name 6) (db_cons (de_name 7) (db_nil))))))) (dss_one (ds_ret (de_tup (db_cons (de_str) (db_cons (de_name 5) (db_nil)))))) (dss_nil))))) (dss_one (ds_ret (de_non))))) (dss_nil)) (dss_cons (ds_if (DW.t (dw_or (dt_cmp (op_eqK K rfl (un64 hr)) (@rs_eq _) (by rfl) (do_name 4) (DE.op (de_tup (db_nil)))) (dw_or1 (dt_cmp (op_neK K rfl (un64 hr)) (@rs_ne _) (by rfl) (DL.op (dl_lcV rfl sc__law_fault.nd (di_range2 (by rfl) Z.n_range (DE.op (de_int)) (DE.op (de_callB (cr_lenK K rfl) (@cs_len _) boot_len (by rfl) Z.n_len (da_cons (do_name 4) (da_nil))))) [("k", 5)] (blkOk_by (N := ["frame", "powers", "value", "n", "told", "k", "crossing", "rest", "wrong", "c"]) (sc := defScope s__law_fault) (by decide +kernel)) (fun _ _ _ _ _ => dg_name 5 sc__law_fault.nd) (fun _ _ _ _ _ => dtt_one (dt_cmp op_le (@rs_leI _) (by rfl) (DE.op (de_ixK K rfl (un1 hr) (fun _ _ => rfl) (do_name 4) (de_name 5))) (DE.op (de_ixK K rfl (un1 hr) (fun _ _ => rfl) (do_name 4) (de_op op_sub (@rs_subI _) (do_name 5) (DE.op (de_int))))))) (fun _ _ _ _ _ => de_name 5) (by decide))) (DL.op (dl_lst (db_nil))))))) (dss_one (ds_ret (de_tup (db_cons (de_str) (db_nil))))) (dss_nil)) (dss_cons (ds_lcF 8 rfl sc__law_fault.nd (di_itemsK K rfl (de_name 4)) [("c", 9)] (blkOk_by (N := ["frame", "powers", "value", "n", "told", "k", "crossing", "rest", "wrong", "c"]) (sc := defScope s__law_fault) (by decide +kernel)) (fun _ _ _ _ _ => dg_name 9 sc__law_fault.nd) (fun _ _ _ _ _ => dtt_one (dt_cmp op_lt (@rs_ltI _) (by rfl) (DE.op (de_ixK K rfl (un1 hr) (fun _ _ => rfl) (do_name 1) (de_op op_sub (@rs_subI _) (do_name 9) (DE.op (de_int))))) (DE.op (de_fnK K rfl (G__law_ways_out.mono (by decide)) hr hG Z.f__law_ways_out.m Z.f__law_ways_out.F.kp Z.f__law_ways_out.b (by rfl) (db_cons (de_name 0) (db_cons (de_name 9) (db_cons (de_name 4) (db_nil)))))))) (fun _ _ _ _ _ => de_name 9) (by decide)) (dss_one (ds_ret (de_ifExp (dt_cmp (op_neK K rfl (un64 hr)) (@rs_ne _) (by rfl) (do_name 8) (DL.op (dl_lst (db_nil)))) (de_tup (db_cons (de_str) (db_cons (de_ixK K rfl (un1 hr) (fun _ _ => rfl) (do_name 8) (de_int)) (db_nil)))) (de_non))))))))))⟩) hw
def wb_law (wf__law_frame wf__law_ways_out wf__law_lot_kept wf_burn_paper wf_is_parking wf__law_fault wf_roads_to wf_judge_burn wf__law_are_powers wf_is_powers : WF) : WS :=
  wSeq (wFor (wRng1 (wC (.int 4))) (wGn 2) (wSeq (wAsg (wFnS 1 2 wf__law_frame (wCons (w2 gIxA (wLst (wCons (wC (.int 2)) (wCons (wC (.int 3)) (wCons (wC (.int 4)) (wCons (wC (.int 5)) (wNil)))))) (wN 2)) (wCons (w2 gIxA (wLst (wCons (wC (.int 4)) (wCons (wC (.int 5)) (wCons (wC (.int 6)) (wCons (wC (.int 7)) (wNil)))))) (wN 2)) (wNil)))) (wGn 3)) (wSeq (wPar [4, 5] (wMFz (w2 gIxA (wB 3) (wC (.int 0))) (wMFz (wCall gRepr (wCons (wB 3) (wNil))) (wMNil)))) (wSeq (wAsg (wCall gTuple (wCons (wLc (wRng2 (wC (.int 1)) (wB 4)) (wGn 21) (wYes) (wFnS 1 1 wfPick (wCons (w2 gAdd (wC (.int 1)) (wFn 3 wf__law_ways_out (wCons (wN 3) (wCons (wN 21) (wCons (wTup (wCons (wN 21) (wNil))) (wNil)))))) (wNil))) [21]) (wNil))) (wGn 6)) (wSeq (wIf (wTrB (w2 gEq (wFnS 1 1 wfPick (wCons (wC (.int 2)) (wNil))) (wC (.int 0)))) (wAsg (wCall gTuple (wCons (wLc (wItems (wN 6)) (wGn 22) (wYes) (wFnS 1 1 wfPick (wCons (w2 gAdd (wC (.int 1)) (wB 22)) (wNil))) [22]) (wNil))) (wGn 6)) (wNext)) (wSeq (wPar [7, 8] (wMFz (wFn 2 wf__law_lot_kept (wCons (wN 3) (wCons (wN 6) (wNil)))) (wMFz (wFn 2 wf_burn_paper (wCons (wN 3) (wCons (wN 6) (wNil)))) (wMNil)))) (wSeq (wIf (wOrT (wTrB (w2 gNe (wCall gRepr (wCons (wFn 2 wf_is_parking (wCons (wN 3) (wCons (wN 6) (wNil)))) (wNil))) (wCall gRepr (wCons (w2 (gIs false) (wB 7) (wC .none)) (wNil))))) (wTrB (w2 gNe (w2 gEq (w2 gIxA (wB 8) (wC (.int 0))) (wC (.str "burns"))) (w2 (gIs false) (wB 7) (wC .none))))) (wRet (wC (.bool false))) (wNext)) (wSeq (wIf (wTrB (w2 (gIs true) (wFn 3 wf__law_fault (wCons (wN 3) (wCons (wN 6) (wCons (wN 8) (wNil))))) (wC .none))) (wRet (wC (.bool false))) (wNext)) (wSeq (wAsg (wFnS 1 1 wfPick (wCons (wN 4) (wNil))) (wGn 9)) (wSeq (wAsg (wSl (wFnS 1 1 wfMixed (wCons (wLstRg (wR1 (wB 4))) (wNil))) (wNoPart) (wPart (wFnS 1 1 wfPick (wCons (w2 gAdd (wB 4) (wC (.int 1))) (wNil))))) (wGn 10)) (wSeq (wAsg (wLc (wRng1 (wB 4)) (wGn 21) (wOrT (wTrB (w2 (gInA true) (wN 21) (wB 10))) (wTrB (w2 gEq (wB 21) (wB 9)))) (wN 21) [21]) (wGn 11)) (wSeq (wIf (wTrB (w2 gNe (wCall gRepr (wCons (wFn 3 wf_roads_to (wCons (wN 3) (wCons (wN 9) (wCons (wCall gTuple (wCons (wB 10) (wNil))) (wNil))))) (wNil))) (wCall gRepr (wCons (wFn 3 wf__law_ways_out (wCons (wN 3) (wCons (wN 9) (wCons (wN 11) (wNil))))) (wNil))))) (wRet (wC (.bool false))) (wNext)) (wSeq (wAsg (wFnS 1 1 wfOf (wCons (wLst (wCons (wC .none) (wCons (wC (.bool true)) (wCons (w1 gNeg (wC (.int 1))) (wCons (wN 4) (wCons (wC (.int 0)) (wCons (wC (.str "0")) (wCons (wTup (wNil)) (wCons (wTup (wCons (wC (.int 0)) (wNil))) (wCons (wLst (wCons (wC (.int 0)) (wNil))) (wCons (w2 gPowI (wC (.int 10)) (wC (.int 9))) (wNil)))))))))))) (wNil))) (wGn 12)) (wSeq (wAsg (wCall gTuple (wCons (wFnS 1 1 wfMixed (wCons (wLstRg (wR2 (wC (.int 1)) (wB 4))) (wNil))) (wNil))) (wGn 13)) (wSeq (wAsg (wCall gTuple (wCons (wCall gSorted (wCons (wSl (wB 13) (wNoPart) (wPart (wFnS 1 1 wfPick (wCons (wN 4) (wNil))))) (wNil))) (wNil))) (wGn 14)) (wSeq (wAsg (wLst (wCons (wN 8) (wCons (wTup (wCons (wC (.str "burns")) (wCons (wN 13) (wNil)))) (wCons (wTup (wCons (wC (.str "lot")) (wCons (wN 14) (wNil)))) (wCons (wTup (wCons (wC (.str "lot")) (wCons (wRevT (wN 14)) (wNil)))) (wCons (wTup (wCons (wC (.str "burns")) (wCons (wN 14) (wNil)))) (wCons (wTup (wCons (wC (.str "lot")) (wCons (wN 13) (wNil)))) (wCons (wCall gList (wCons (wB 8) (wNil))) (wNil))))))))) (wGn 15)) (wSeq (wAsg (w2 gCat (wB 15) (wLst (wCons (wTup (wCons (wC (.str "burns")) (wCons (wN 12) (wNil)))) (wCons (wTup (wCons (wC (.str "lot")) (wCons (wN 12) (wNil)))) (wCons (wTup (wCons (wC (.str "burns")) (wCons (w2 gAdd (wB 13) (wTup (wCons (wN 12) (wNil)))) (wNil)))) (wCons (wTup (wCons (wC (.str "lot")) (wCons (wTup (wCons (wN 12) (wNil))) (wNil)))) (wCons (wTup (wCons (wN 12) (wCons (wN 13) (wNil)))) (wCons (wC .none) (wCons (wTup (wNil)) (wNil)))))))))) (wGn 15)) (wSeq (wAsg (w2 gCat (wB 15) (wLst (wCons (wRevT (wN 8)) (wCons (wSl (wB 8) (wNoPart) (wPart (wC (.int 1)))) (wCons (w2 gAdd (wB 8) (wTup (wCons (wC (.int 0)) (wNil)))) (wCons (wTup (wCons (wC (.str "burns")) (wCons (wCall gList (wCons (wB 13) (wNil))) (wNil)))) (wCons (wTup (wCons (wC (.str "lot")) (wCons (w2 gAdd (wTup (wCons (wC (.int 0)) (wNil))) (wB 14)) (wNil)))) (wCons (wTup (wCons (wC (.str "Lot")) (wCons (wN 14) (wNil)))) (wNil))))))))) (wGn 15)) (wSeq (wFor (wItems (wN 15)) (wGn 16) (wSeq (wPar [17, 18] (wMFz (wCall gRepr (wCons (wB 16) (wNil))) (wMFz (wFn 3 wf__law_fault (wCons (wN 3) (wCons (wN 6) (wCons (wN 16) (wNil))))) (wMNil)))) (wSeq (wIf (wOrT (wTrB (w2 gNe (wCall gRepr (wCons (wFn 3 wf_judge_burn (wCons (wN 3) (wCons (wN 6) (wCons (wN 16) (wNil))))) (wNil))) (wCall gRepr (wCons (wB 18) (wNil))))) (wTrB (w2 gNe (wCall gRepr (wCons (wB 16) (wNil))) (wB 17)))) (wRet (wC (.bool false))) (wNext)) (wIf (wAndT (wTrB (w2 (gIs false) (wB 18) (wC .none))) (wTrB (w2 gNe (w2 gIxA (wB 16) (wC (.int 0))) (w2 gIxA (wB 8) (wC (.int 0)))))) (wRet (wC (.bool false))) (wNext))))) (wSeq (wAsg (wFnS 1 1 wfPick (wCons (wN 4) (wNil))) (wGn 19)) (wSeq (wFor (wItems (wTup (wCons (wN 6) (wCons (w2 gAdd (w2 gAdd (wSl (wB 6) (wNoPart) (wPart (wB 19))) (wTup (wCons (wN 12) (wNil)))) (wSl (wB 6) (wPart (w2 gAdd (wB 19) (wC (.int 1)))) (wNoPart))) (wCons (wCall gList (wCons (wB 6) (wNil))) (wCons (w2 gAdd (wB 6) (wTup (wCons (wC (.int 0)) (wNil)))) (wCons (wSl (wB 6) (wPart (wC (.int 1))) (wNoPart)) (wCons (wN 12) (wNil))))))))) (wGn 16) (wSeq (wAsg (wFn 2 wf__law_are_powers (wCons (wN 4) (wCons (wN 16) (wNil)))) (wGn 20)) (wSeq (wIf (wTrB (w2 gNe (wCall gRepr (wCons (wFn 2 wf_is_powers (wCons (wN 4) (wCons (wN 16) (wNil)))) (wNil))) (wCall gRepr (wCons (wB 20) (wNil))))) (wRet (wC (.bool false))) (wNext)) (wIf (wTrB (w2 gNe (wCall gRepr (wCons (wFn 2 wf_is_parking (wCons (wN 3) (wCons (wN 16) (wNil)))) (wNil))) (wCall gRepr (wCons (wAndV (wN 20) (w2 (gIs false) (wFn 2 wf__law_lot_kept (wCons (wN 3) (wCons (wN 16) (wNil)))) (wC .none))) (wNil))))) (wRet (wC (.bool false))) (wNext))))) (wIf (wTrB (w2 gNe (wCall gRepr (wCons (wB 3) (wNil))) (wB 5))) (wRet (wC (.bool false))) (wNext))))))))))))))))))))))) (wRet (w2 gEq (wFn 2 wf_burn_paper (wCons (wTup (wCons (wC (.int 3)) (wCons (wTup (wCons (wTup (wCons (wC (.int 0)) (wCons (wC (.int 1)) (wNil)))) (wCons (wTup (wCons (wC (.int 1)) (wCons (wC (.int 2)) (wNil)))) (wCons (wTup (wCons (wC (.int 2)) (wCons (wC (.int 0)) (wNil)))) (wNil))))) (wNil)))) (wCons (wTup (wCons (wC (.int 1)) (wCons (wC (.int 1)) (wNil)))) (wNil)))) (wTup (wCons (wC (.str "lot")) (wCons (wTup (wCons (wC (.int 1)) (wCons (wC (.int 2)) (wNil)))) (wNil))))))
theorem wk_law (Z : Fs K mg) {wf__law_frame wf__law_ways_out wf__law_lot_kept wf_burn_paper wf_is_parking wf__law_fault wf_roads_to wf_judge_burn wf__law_are_powers wf_is_powers : WF} (G_source : FnG P w K mg base 1 Z.f__law_source.a Z.f__law_source.d ["script"] (spSource K)) (G__law_frame : FnG P w K mg base 3 Z.f__law_frame.a Z.f__law_frame.d ["source", "crossings", "roads"] (spS K 2 wf__law_frame)) (G__law_pick : FnG P w K mg base 1 Z.f__law_pick.a Z.f__law_pick.d ["source", "many"] (spS K 1 wfPick)) (G__law_ways_out : FnG P w K mg base 1 Z.f__law_ways_out.a Z.f__law_ways_out.d ["frame", "crossing", "lot"] (spW K 3 wf__law_ways_out)) (G__law_lot_kept : FnG P w K mg base 2 Z.f__law_lot_kept.a Z.f__law_lot_kept.d ["frame", "powers"] (spW K 2 wf__law_lot_kept)) (G_burn_paper : FnG P w K mg base 3 Z.f_burn_paper.a Z.f_burn_paper.d ["frame", "powers"] (spW K 2 wf_burn_paper)) (G_is_parking : FnG P w K mg base 3 Z.f_is_parking.a Z.f_is_parking.d ["frame", "value"] (spW K 2 wf_is_parking)) (G__law_fault : FnG P w K mg base 2 Z.f__law_fault.a Z.f__law_fault.d ["frame", "powers", "value"] (spW K 3 wf__law_fault)) (G__law_mixed : FnG P w K mg base 2 Z.f__law_mixed.a Z.f__law_mixed.d ["source", "things"] (spS K 1 wfMixed)) (G_roads_to : FnG P w K mg base 1 Z.f_roads_to.a Z.f_roads_to.d ["frame", "crossing", "lot"] (spW K 3 wf_roads_to)) (G__law_of : FnG P w K mg base 2 Z.f__law_of.a Z.f__law_of.d ["source", "some"] (spS K 1 wfOf)) (G_judge_burn : FnG P w K mg base 2 Z.f_judge_burn.a Z.f_judge_burn.d ["frame", "powers", "value"] (spW K 3 wf_judge_burn)) (G__law_are_powers : FnG P w K mg base 2 Z.f__law_are_powers.a Z.f__law_are_powers.d ["n", "value"] (spW K 2 wf__law_are_powers)) (G_is_powers : FnG P w K mg base 2 Z.f_is_powers.a Z.f_is_powers.d ["n", "value"] (spW K 2 wf_is_powers)) (hw : wb_law wf__law_frame wf__law_ways_out wf__law_lot_kept wf_burn_paper wf_is_parking wf__law_fault wf_roads_to wf_judge_burn wf__law_are_powers wf_is_powers { nx := fun _ => False, rt := fun d => d = .bool true } (lawE ["script", "source", "lap", "frame", "n", "kept", "powers", "lot", "told", "crossing", "some", "others", "odd", "row", "part", "values", "value", "shown", "fault", "k", "is_one", "c", "number"])) : FnG P w K mg base 4 Z.f_law.a Z.f_law.d ["script"] (spLawG K) :=
  fn_law (wb := wb_law wf__law_frame wf__law_ways_out wf__law_lot_kept wf_burn_paper wf_is_parking wf__law_fault wf_roads_to wf_judge_burn wf__law_are_powers wf_is_powers) Z.f_law.F sc_law (by decide) (fun cdv A outer s H hr hG => ⟨_, _, _, rfl, ps_set (i := 1) sc_law.nd rfl (by first | exact .inl rfl | exact .inr rfl) (pe_callG (G_source.mono (by decide)) hr hG (by rfl) Z.f__law_source.m Z.f__law_source.F.kp Z.f__law_source.b (pa_cons (pv 0) pa_nil)),
    dss_cons (ds_for PassesOwn.never rfl (di_range1 (by rfl) Z.n_range (DE.op (de_int))) (dg_name 2 sc_law.nd) (dss_cons (ds_set 3 sc_law.nd (de_fnSK K rfl 1 (G__law_frame.mono (by decide)) hr hG Z.f__law_frame.m Z.f__law_frame.F.kp Z.f__law_frame.b (by rfl) (pv 1) (db_cons (de_ixK K rfl (un1 hr) (fun _ _ => rfl) (DL.op (dl_lst (db_cons (de_int) (db_cons (de_int) (db_cons (de_int) (db_cons (de_int) (db_nil))))))) (de_name 2)) (db_cons (de_ixK K rfl (un1 hr) (fun _ _ => rfl) (DL.op (dl_lst (db_cons (de_int) (db_cons (de_int) (db_cons (de_int) (db_cons (de_int) (db_nil))))))) (de_name 2)) (db_nil))))) (dss_cons (ds_par2 4 5 rfl sc_law.nd (dm_fz (de_ixK K rfl (un1 hr) (fun _ _ => rfl) (do_name 3) (de_int)) (dm_fz (de_callB (cr_reprK K rfl (un70 hr) hG) (@cs_repr _) bt_repr (by rfl) Z.n_repr (da_cons (do_name 3) (da_nil))) (dm_nil)))) (dss_cons (ds_set 6 sc_law.nd (de_callT (cr_tupleK K rfl) (@cs_tuple _) boot_tuple (by rfl) Z.n_tuple (da_cons (DL.op (dl_lcV rfl sc_law.nd (di_range2 (by rfl) Z.n_range (DE.op (de_int)) (do_name 4)) [("c", 21)] (blkOk_by (N := ["script", "source", "lap", "frame", "n", "kept", "powers", "lot", "told", "crossing", "some", "others", "odd", "row", "part", "values", "value", "shown", "fault", "k", "is_one", "c", "number"]) (sc := defScope s_law) (by decide +kernel)) (fun _ _ _ _ _ => dg_name 21 sc_law.nd) (fun _ _ _ _ _ => dtt_nil) (fun _ _ _ _ _ => de_fnSK K rfl 1 (G__law_pick.mono (by decide)) hr hG Z.f__law_pick.m Z.f__law_pick.F.kp Z.f__law_pick.b (by rfl) (pv 1) (db_cons (de_op (op_addK K rfl) (@rs_add _) (DE.op (de_int)) (DE.op (de_fnK K rfl (G__law_ways_out.mono (by decide)) hr hG Z.f__law_ways_out.m Z.f__law_ways_out.F.kp Z.f__law_ways_out.b (by rfl) (db_cons (de_name 3) (db_cons (de_name 21) (db_cons (de_tup (db_cons (de_name 21) (db_nil))) (db_nil))))))) (db_nil))) (by decide))) (da_nil)))) (dss_cons (ds_if (dt_cmp (op_eqK K rfl (un64 hr)) (@rs_eq _) (by rfl) (DE.op (de_fnSK K rfl 1 (G__law_pick.mono (by decide)) hr hG Z.f__law_pick.m Z.f__law_pick.F.kp Z.f__law_pick.b (by rfl) (pv 1) (db_cons (de_int) (db_nil)))) (DE.op (de_int))) (dss_one (ds_set 6 sc_law.nd (de_callT (cr_tupleK K rfl) (@cs_tuple _) boot_tuple (by rfl) Z.n_tuple (da_cons (DL.op (dl_lcV rfl sc_law.nd (di_itemsK K rfl (de_name 6)) [("number", 22)] (blkOk_by (N := ["script", "source", "lap", "frame", "n", "kept", "powers", "lot", "told", "crossing", "some", "others", "odd", "row", "part", "values", "value", "shown", "fault", "k", "is_one", "c", "number"]) (sc := defScope s_law) (by decide +kernel)) (fun _ _ _ _ _ => dg_name 22 sc_law.nd) (fun _ _ _ _ _ => dtt_nil) (fun _ _ _ _ _ => de_fnSK K rfl 1 (G__law_pick.mono (by decide)) hr hG Z.f__law_pick.m Z.f__law_pick.F.kp Z.f__law_pick.b (by rfl) (pv 1) (db_cons (de_op (op_addK K rfl) (@rs_add _) (DE.op (de_int)) (do_name 22)) (db_nil))) (by decide))) (da_nil))))) (dss_nil)) (dss_cons (ds_par2 7 8 rfl sc_law.nd (dm_fz (de_fnK K rfl (G__law_lot_kept.mono (by decide)) hr hG Z.f__law_lot_kept.m Z.f__law_lot_kept.F.kp Z.f__law_lot_kept.b (by rfl) (db_cons (de_name 3) (db_cons (de_name 6) (db_nil)))) (dm_fz (de_fnK K rfl (G_burn_paper.mono (by decide)) hr hG Z.f_burn_paper.m Z.f_burn_paper.F.kp Z.f_burn_paper.b (by rfl) (db_cons (de_name 3) (db_cons (de_name 6) (db_nil)))) (dm_nil)))) (dss_cons (ds_if (DW.t (dw_or (dt_cmp (op_neK K rfl (un64 hr)) (@rs_ne _) (by rfl) (DE.op (de_callB (cr_reprK K rfl (un70 hr) hG) (@cs_repr _) bt_repr (by rfl) Z.n_repr (da_cons (DE.op (de_fnK K rfl (G_is_parking.mono (by decide)) hr hG Z.f_is_parking.m Z.f_is_parking.F.kp Z.f_is_parking.b (by rfl) (db_cons (de_name 3) (db_cons (de_name 6) (db_nil))))) (da_nil)))) (DE.op (de_callB (cr_reprK K rfl (un70 hr) hG) (@cs_repr _) bt_repr (by rfl) Z.n_repr (da_cons (DE.op (de_cmp op_isA (@rs_is _ _) (by rfl) (do_name 7) (DE.op (de_non)))) (da_nil))))) (dw_or1 (dt_cmp (op_neK K rfl (un64 hr)) (@rs_ne _) (by rfl) (DE.op (de_cmp (op_eqK K rfl (un64 hr)) (@rs_eq _) (by rfl) (DE.op (de_ixK K rfl (un1 hr) (fun _ _ => rfl) (do_name 8) (de_int))) (DE.op (de_str)))) (DE.op (de_cmp op_isA (@rs_is _ _) (by rfl) (do_name 7) (DE.op (de_non)))))))) (dss_one (ds_ret (de_bl))) (dss_nil)) (dss_cons (ds_if (dt_cmp op_notA (@rs_is _ _) (by rfl) (DE.op (de_fnK K rfl (G__law_fault.mono (by decide)) hr hG Z.f__law_fault.m Z.f__law_fault.F.kp Z.f__law_fault.b (by rfl) (db_cons (de_name 3) (db_cons (de_name 6) (db_cons (de_name 8) (db_nil)))))) (DE.op (de_non))) (dss_one (ds_ret (de_bl))) (dss_nil)) (dss_cons (ds_set 9 sc_law.nd (de_fnSK K rfl 1 (G__law_pick.mono (by decide)) hr hG Z.f__law_pick.m Z.f__law_pick.F.kp Z.f__law_pick.b (by rfl) (pv 1) (db_cons (de_name 4) (db_nil)))) (dss_cons (ds_set 10 sc_law.nd (de_sliceK K rfl (DE.op (de_fnSK K rfl 1 (G__law_mixed.mono (by decide)) hr hG Z.f__law_mixed.m Z.f__law_mixed.F.kp Z.f__law_mixed.b (by rfl) (pv 1) (db_cons (DL.fr (dl_listRg rfl (by rfl) Z.n_list (drg_1 (by rfl) Z.n_range (do_name 4)))) (db_nil)))) (dpo_none) (dpo_some (DE.op (de_fnSK K rfl 1 (G__law_pick.mono (by decide)) hr hG Z.f__law_pick.m Z.f__law_pick.F.kp Z.f__law_pick.b (by rfl) (pv 1) (db_cons (de_op (op_addK K rfl) (@rs_add _) (do_name 4) (DE.op (de_int))) (db_nil))))))) (dss_cons (ds_lcF 11 rfl sc_law.nd (di_range1 (by rfl) Z.n_range (do_name 4)) [("c", 21)] (blkOk_by (N := ["script", "source", "lap", "frame", "n", "kept", "powers", "lot", "told", "crossing", "some", "others", "odd", "row", "part", "values", "value", "shown", "fault", "k", "is_one", "c", "number"]) (sc := defScope s_law) (by decide +kernel)) (fun _ _ _ _ _ => dg_name 21 sc_law.nd) (fun _ _ _ _ _ => dtt_one (DW.t (dw_or (dt_cmp1 (op_notInK K rfl (un65 hr)) (@rs_notIn _) (by rfl) (de_name 21) (do_name 10)) (dw_or1 (dt_cmp (op_eqK K rfl (un64 hr)) (@rs_eq _) (by rfl) (do_name 21) (do_name 9)))))) (fun _ _ _ _ _ => de_name 21) (by decide)) (dss_cons (ds_if (dt_cmp (op_neK K rfl (un64 hr)) (@rs_ne _) (by rfl) (DE.op (de_callB (cr_reprK K rfl (un70 hr) hG) (@cs_repr _) bt_repr (by rfl) Z.n_repr (da_cons (DE.op (de_fnK K rfl (G_roads_to.mono (by decide)) hr hG Z.f_roads_to.m Z.f_roads_to.F.kp Z.f_roads_to.b (by rfl) (db_cons (de_name 3) (db_cons (de_name 9) (db_cons (de_callT (cr_tupleK K rfl) (@cs_tuple _) boot_tuple (by rfl) Z.n_tuple (da_cons (do_name 10) (da_nil))) (db_nil)))))) (da_nil)))) (DE.op (de_callB (cr_reprK K rfl (un70 hr) hG) (@cs_repr _) bt_repr (by rfl) Z.n_repr (da_cons (DE.op (de_fnK K rfl (G__law_ways_out.mono (by decide)) hr hG Z.f__law_ways_out.m Z.f__law_ways_out.F.kp Z.f__law_ways_out.b (by rfl) (db_cons (de_name 3) (db_cons (de_name 9) (db_cons (de_name 11) (db_nil)))))) (da_nil))))) (dss_one (ds_ret (de_bl))) (dss_nil)) (dss_cons (ds_set 12 sc_law.nd (de_fnSK K rfl 1 (G__law_of.mono (by decide)) hr hG Z.f__law_of.m Z.f__law_of.F.kp Z.f__law_of.b (by rfl) (pv 1) (db_cons (DL.fr (dl_lst (db_cons (de_non) (db_cons (de_bl) (db_cons (de_neg (DE.op (de_int))) (db_cons (de_name 4) (db_cons (de_int) (db_cons (de_str) (db_cons (de_tup (db_nil)) (db_cons (de_tup (db_cons (de_int) (db_nil))) (db_cons (DL.fr (dl_lst (db_cons (de_int) (db_nil)))) (db_cons (de_op op_pow (@rs_powI _) (DE.op (de_int)) (DE.op (de_int))) (db_nil))))))))))))) (db_nil)))) (dss_cons (ds_set 13 sc_law.nd (de_callT (cr_tupleK K rfl) (@cs_tuple _) boot_tuple (by rfl) Z.n_tuple (da_cons (DE.op (de_fnSK K rfl 1 (G__law_mixed.mono (by decide)) hr hG Z.f__law_mixed.m Z.f__law_mixed.F.kp Z.f__law_mixed.b (by rfl) (pv 1) (db_cons (DL.fr (dl_listRg rfl (by rfl) Z.n_list (drg_2 (by rfl) Z.n_range (DE.op (de_int)) (do_name 4)))) (db_nil)))) (da_nil)))) (dss_cons (ds_set 14 sc_law.nd (de_callT (cr_tupleK K rfl) (@cs_tuple _) boot_tuple (by rfl) Z.n_tuple (da_cons (DL.op (dl_callB (cr_sortedK K rfl rfl (un70 hr)) (@cs_sorted _) bt_sorted (by rfl) Z.n_sorted (da_cons (DE.op (de_sliceK K rfl (do_name 13) (dpo_none) (dpo_some (DE.op (de_fnSK K rfl 1 (G__law_pick.mono (by decide)) hr hG Z.f__law_pick.m Z.f__law_pick.F.kp Z.f__law_pick.b (by rfl) (pv 1) (db_cons (de_name 4) (db_nil))))))) (da_nil)))) (da_nil)))) (dss_cons (ds_set 15 sc_law.nd (DL.fr (dl_lst (db_cons (de_name 8) (db_cons (de_tup (db_cons (de_str) (db_cons (de_name 13) (db_nil)))) (db_cons (de_tup (db_cons (de_str) (db_cons (de_name 14) (db_nil)))) (db_cons (de_tup (db_cons (de_str) (db_cons (de_revTK K rfl (de_name 14)) (db_nil)))) (db_cons (de_tup (db_cons (de_str) (db_cons (de_name 14) (db_nil)))) (db_cons (de_tup (db_cons (de_str) (db_cons (de_name 13) (db_nil)))) (db_cons (DL.fr (dl_callT (cr_listK K rfl) (@cs_list _) boot_list (by rfl) Z.n_list (da_cons (do_name 8) (da_nil)))) (db_nil))))))))))) (dss_cons (ds_set 15 sc_law.nd (DL.fr (dl_op op_cat (@rs_cat _) (do_name 15) (DL.op (dl_lst (db_cons (de_tup (db_cons (de_str) (db_cons (de_name 12) (db_nil)))) (db_cons (de_tup (db_cons (de_str) (db_cons (de_name 12) (db_nil)))) (db_cons (de_tup (db_cons (de_str) (db_cons (de_op (op_addK K rfl) (@rs_add _) (do_name 13) (DE.op (de_tup (db_cons (de_name 12) (db_nil))))) (db_nil)))) (db_cons (de_tup (db_cons (de_str) (db_cons (de_tup (db_cons (de_name 12) (db_nil))) (db_nil)))) (db_cons (de_tup (db_cons (de_name 12) (db_cons (de_name 13) (db_nil)))) (db_cons (de_non) (db_cons (de_tup (db_nil)) (db_nil))))))))))))) (dss_cons (ds_set 15 sc_law.nd (DL.fr (dl_op op_cat (@rs_cat _) (do_name 15) (DL.op (dl_lst (db_cons (de_revTK K rfl (de_name 8)) (db_cons (de_sliceK K rfl (do_name 8) (dpo_none) (dpo_some (DE.op (de_int)))) (db_cons (de_op (op_addK K rfl) (@rs_add _) (do_name 8) (DE.op (de_tup (db_cons (de_int) (db_nil))))) (db_cons (de_tup (db_cons (de_str) (db_cons (DL.fr (dl_callT (cr_listK K rfl) (@cs_list _) boot_list (by rfl) Z.n_list (da_cons (do_name 13) (da_nil)))) (db_nil)))) (db_cons (de_tup (db_cons (de_str) (db_cons (de_op (op_addK K rfl) (@rs_add _) (DE.op (de_tup (db_cons (de_int) (db_nil)))) (do_name 14)) (db_nil)))) (db_cons (de_tup (db_cons (de_str) (db_cons (de_name 14) (db_nil)))) (db_nil)))))))))))) (dss_cons (ds_for PassesOwn.never rfl (di_itemsK K rfl (de_name 15)) (dg_name 16 sc_law.nd) (dss_cons (ds_par2 17 18 rfl sc_law.nd (dm_fz (de_callB (cr_reprK K rfl (un70 hr) hG) (@cs_repr _) bt_repr (by rfl) Z.n_repr (da_cons (do_name 16) (da_nil))) (dm_fz (de_fnK K rfl (G__law_fault.mono (by decide)) hr hG Z.f__law_fault.m Z.f__law_fault.F.kp Z.f__law_fault.b (by rfl) (db_cons (de_name 3) (db_cons (de_name 6) (db_cons (de_name 16) (db_nil))))) (dm_nil)))) (dss_cons (ds_if (DW.t (dw_or (dt_cmp (op_neK K rfl (un64 hr)) (@rs_ne _) (by rfl) (DE.op (de_callB (cr_reprK K rfl (un70 hr) hG) (@cs_repr _) bt_repr (by rfl) Z.n_repr (da_cons (DE.op (de_fnK K rfl (G_judge_burn.mono (by decide)) hr hG Z.f_judge_burn.m Z.f_judge_burn.F.kp Z.f_judge_burn.b (by rfl) (db_cons (de_name 3) (db_cons (de_name 6) (db_cons (de_name 16) (db_nil)))))) (da_nil)))) (DE.op (de_callB (cr_reprK K rfl (un70 hr) hG) (@cs_repr _) bt_repr (by rfl) Z.n_repr (da_cons (do_name 18) (da_nil))))) (dw_or1 (dt_cmp (op_neK K rfl (un64 hr)) (@rs_ne _) (by rfl) (DE.op (de_callB (cr_reprK K rfl (un70 hr) hG) (@cs_repr _) bt_repr (by rfl) Z.n_repr (da_cons (do_name 16) (da_nil)))) (do_name 17))))) (dss_one (ds_ret (de_bl))) (dss_nil)) (dss_one (ds_if (DW.t (dw_and (dt_cmp op_isA (@rs_is _ _) (by rfl) (do_name 18) (DE.op (de_non))) (dw_and1 (dt_cmp (op_neK K rfl (un64 hr)) (@rs_ne _) (by rfl) (DE.op (de_ixK K rfl (un1 hr) (fun _ _ => rfl) (do_name 16) (de_int))) (DE.op (de_ixK K rfl (un1 hr) (fun _ _ => rfl) (do_name 8) (de_int))))))) (dss_one (ds_ret (de_bl))) (dss_nil)))))) (dss_cons (ds_set 19 sc_law.nd (de_fnSK K rfl 1 (G__law_pick.mono (by decide)) hr hG Z.f__law_pick.m Z.f__law_pick.F.kp Z.f__law_pick.b (by rfl) (pv 1) (db_cons (de_name 4) (db_nil)))) (dss_cons (ds_for PassesOwn.never rfl (di_itemsK K rfl (de_tup (db_cons (de_name 6) (db_cons (de_op (op_addK K rfl) (@rs_add _) (DE.op (de_op (op_addK K rfl) (@rs_add _) (DE.op (de_sliceK K rfl (do_name 6) (dpo_none) (dpo_some (do_name 19)))) (DE.op (de_tup (db_cons (de_name 12) (db_nil)))))) (DE.op (de_sliceK K rfl (do_name 6) (dpo_some (DE.op (de_op (op_addK K rfl) (@rs_add _) (do_name 19) (DE.op (de_int))))) (dpo_none)))) (db_cons (DL.fr (dl_callT (cr_listK K rfl) (@cs_list _) boot_list (by rfl) Z.n_list (da_cons (do_name 6) (da_nil)))) (db_cons (de_op (op_addK K rfl) (@rs_add _) (do_name 6) (DE.op (de_tup (db_cons (de_int) (db_nil))))) (db_cons (de_sliceK K rfl (do_name 6) (dpo_some (DE.op (de_int))) (dpo_none)) (db_cons (de_name 12) (db_nil))))))))) (dg_name 16 sc_law.nd) (dss_cons (ds_set 20 sc_law.nd (de_fnK K rfl (G__law_are_powers.mono (by decide)) hr hG Z.f__law_are_powers.m Z.f__law_are_powers.F.kp Z.f__law_are_powers.b (by rfl) (db_cons (de_name 4) (db_cons (de_name 16) (db_nil))))) (dss_cons (ds_if (dt_cmp (op_neK K rfl (un64 hr)) (@rs_ne _) (by rfl) (DE.op (de_callB (cr_reprK K rfl (un70 hr) hG) (@cs_repr _) bt_repr (by rfl) Z.n_repr (da_cons (DE.op (de_fnK K rfl (G_is_powers.mono (by decide)) hr hG Z.f_is_powers.m Z.f_is_powers.F.kp Z.f_is_powers.b (by rfl) (db_cons (de_name 4) (db_cons (de_name 16) (db_nil))))) (da_nil)))) (DE.op (de_callB (cr_reprK K rfl (un70 hr) hG) (@cs_repr _) bt_repr (by rfl) Z.n_repr (da_cons (do_name 20) (da_nil))))) (dss_one (ds_ret (de_bl))) (dss_nil)) (dss_one (ds_if (dt_cmp (op_neK K rfl (un64 hr)) (@rs_ne _) (by rfl) (DE.op (de_callB (cr_reprK K rfl (un70 hr) hG) (@cs_repr _) bt_repr (by rfl) Z.n_repr (da_cons (DE.op (de_fnK K rfl (G_is_parking.mono (by decide)) hr hG Z.f_is_parking.m Z.f_is_parking.F.kp Z.f_is_parking.b (by rfl) (db_cons (de_name 3) (db_cons (de_name 16) (db_nil))))) (da_nil)))) (DE.op (de_callB (cr_reprK K rfl (un70 hr) hG) (@cs_repr _) bt_repr (by rfl) Z.n_repr (da_cons (DE.op (de_and (de_name 20) (de_one (de_cmp op_isA (@rs_is _ _) (by rfl) (DE.op (de_fnK K rfl (G__law_lot_kept.mono (by decide)) hr hG Z.f__law_lot_kept.m Z.f__law_lot_kept.F.kp Z.f__law_lot_kept.b (by rfl) (db_cons (de_name 3) (db_cons (de_name 16) (db_nil))))) (DE.op (de_non)))))) (da_nil))))) (dss_one (ds_ret (de_bl))) (dss_nil)))))) (dss_one (ds_if (dt_cmp (op_neK K rfl (un64 hr)) (@rs_ne _) (by rfl) (DE.op (de_callB (cr_reprK K rfl (un70 hr) hG) (@cs_repr _) bt_repr (by rfl) Z.n_repr (da_cons (do_name 3) (da_nil)))) (do_name 5)) (dss_one (ds_ret (de_bl))) (dss_nil)))))))))))))))))))))))) (dss_one (ds_ret (de_cmp (op_eqK K rfl (un64 hr)) (@rs_eq _) (by rfl) (DE.op (de_fnK K rfl (G_burn_paper.mono (by decide)) hr hG Z.f_burn_paper.m Z.f_burn_paper.F.kp Z.f_burn_paper.b (by rfl) (db_cons (de_tup (db_cons (de_int) (db_cons (de_tup (db_cons (de_tup (db_cons (de_int) (db_cons (de_int) (db_nil)))) (db_cons (de_tup (db_cons (de_int) (db_cons (de_int) (db_nil)))) (db_cons (de_tup (db_cons (de_int) (db_cons (de_int) (db_nil)))) (db_nil))))) (db_nil)))) (db_cons (de_tup (db_cons (de_int) (db_cons (de_int) (db_nil)))) (db_nil))))) (DE.op (de_tup (db_cons (de_str) (db_cons (de_tup (db_cons (de_int) (db_cons (de_int) (db_nil)))) (db_nil))))))))⟩) hw
end
-- levels: is_whole 1, is_powers 2, roads_to 1, burnt_in_sequence 2, is_parking 3, burn_paper 3, judge_burn 2, _law_source 1, _law_pick 1, _law_of 2, _law_mixed 2, _law_frame 3, _law_ways_out 1, _law_crossing_lots 1, _law_lot_kept 2, _law_is_int 1, _law_are_powers 2, _law_fault 2, law 4
end K25

set_option Elab.async false
set_option linter.all false
set_option maxRecDepth 100000
namespace K25
open PySem PySem.Spec PyProof.Rows L2 W2 PySem.W

/-! ### roads out, roads to: plain -/
def isTo (c : Int) (l : List Int) (p : Int × Int) : Bool := (decide (c ∈ [p.1, p.2]) && !(p.1 == p.2)) && decide (p.1 + p.2 - c ∈ l)
def rto (roads : List (Int × Int)) (c : Int) (l : List Int) : Nat := (roads.filter (isTo c l)).length
def isOut (c : Int) (l : List Int) (p : Int × Int) : Bool := (p.1 == c && !decide (p.2 ∈ l)) || (p.2 == c && !decide (p.1 ∈ l))
def wout (roads : List (Int × Int)) (c : Int) (l : List Int) : Nat := (roads.filter (isOut c l)).length
theorem isTo_iff {c : Int} {l : List Int} {p : Int × Int} : isTo c l p = true ↔ (c = p.1 ∧ p.2 ∈ l ∨ c = p.2 ∧ p.1 ∈ l) ∧ p.1 ≠ p.2 := by
  unfold isTo
  rw [Bool.and_eq_true, Bool.and_eq_true, decide_eq_true_iff, decide_eq_true_iff, Bool.not_eq_true', beq_eq_false_iff_ne, List.mem_cons, List.mem_singleton]
  constructor
  · rintro ⟨⟨h, n⟩, m⟩
    refine ⟨?_, n⟩
    rcases h with h | h
    · subst h; left; refine ⟨rfl, ?_⟩
      have e : p.1 + p.2 - p.1 = p.2 := by omega
      rwa [e] at m
    · subst h; right; refine ⟨rfl, ?_⟩
      have e : p.1 + p.2 - p.2 = p.1 := by omega
      rwa [e] at m
  · rintro ⟨h, n⟩
    rcases h with ⟨h, m⟩ | ⟨h, m⟩
    · subst h
      refine ⟨⟨.inl rfl, n⟩, ?_⟩
      have e : p.1 + p.2 - p.1 = p.2 := by omega
      rwa [e]
    · subst h
      refine ⟨⟨.inr rfl, n⟩, ?_⟩
      have e : p.1 + p.2 - p.2 = p.1 := by omega
      rwa [e]
theorem isOut_iff {c : Int} {l : List Int} {p : Int × Int} : isOut c l p = true ↔ (p.1 = c ∧ p.2 ∉ l) ∨ (p.2 = c ∧ p.1 ∉ l) := by
  unfold isOut
  rw [Bool.or_eq_true, Bool.and_eq_true, Bool.and_eq_true, beq_iff_eq, beq_iff_eq, Bool.not_eq_true', Bool.not_eq_true', decide_eq_false_iff_not, decide_eq_false_iff_not]
theorem filter_mono {α : Type} {f g : α → Bool} : ∀ {l : List α}, (∀ x ∈ l, f x = true → g x = true) → (l.filter f).length ≤ (l.filter g).length
  | [], _ => Nat.le_refl _
  | x :: r, h => by
    have ih := filter_mono (l := r) fun y hy => h y (List.mem_cons_of_mem _ hy)
    have hx := h x List.mem_cons_self
    rw [List.filter_cons, List.filter_cons]
    cases c : f x with
    | false =>
      rw [if_neg Bool.false_ne_true]
      split
      · rw [List.length_cons]; omega
      · exact ih
    | true =>
      rw [if_pos rfl, if_pos (hx c), List.length_cons, List.length_cons]; omega
/-- roads to s are roads out of l, where l keeps c and l, s share none but all there are -/
theorem out_to {n c : Int} {roads : List (Int × Int)} {l s : List Int} (hg : Good n roads) (hc : c ∈ l) (h : ∀ x, 0 ≤ x → x < n → x ≠ c → (x ∈ l ↔ x ∉ s)) : wout roads c l = rto roads c s := by
  unfold wout rto
  congr 1
  refine List.filter_congr fun p hp => ?_
  have hp' := hg p hp
  rw [Bool.eq_iff_iff, isOut_iff, isTo_iff]
  constructor
  · rintro (⟨h1, h2⟩ | ⟨h1, h2⟩)
    · have ne : p.2 ≠ c := fun e => h2 (e ▸ hc)
      refine ⟨.inl ⟨h1.symm, Classical.not_not.mp fun z => h2 ((h _ hp'.2.1 hp'.2.2 ne).mpr z)⟩, by omega⟩
    · have ne : p.1 ≠ c := fun e => h2 (e ▸ hc)
      refine ⟨.inr ⟨h1.symm, Classical.not_not.mp fun z => h2 ((h _ hp'.1.1 hp'.1.2 ne).mpr z)⟩, by omega⟩
  · rintro ⟨⟨h1, h2⟩ | ⟨h1, h2⟩, n⟩
    · exact .inl ⟨h1.symm, fun z => ((h _ hp'.2.1 hp'.2.2 (by omega)).mp z) h2⟩
    · exact .inr ⟨h1.symm, fun z => ((h _ hp'.1.1 hp'.1.2 (by omega)).mp z) h2⟩
theorem to_le_out {c : Int} {roads : List (Int × Int)} {l s : List Int} (h : ∀ x ∈ s, x ∉ l) : rto roads c s ≤ wout roads c l :=
  filter_mono fun p _ z => by
    rw [isTo_iff] at z
    rw [isOut_iff]
    rcases z with ⟨⟨h1, h2⟩ | ⟨h1, h2⟩, _⟩
    · exact .inl ⟨h1.symm, h _ h2⟩
    · exact .inr ⟨h1.symm, h _ h2⟩
/-! ### burning -/
def cr (m : Nat) : List Int := (List.range m).map fun i : Nat => 1 + (i : Int)
theorem mem_cr {m : Nat} {c : Int} : c ∈ cr m ↔ 0 < c ∧ c < (m : Int) + 1 := by
  unfold cr
  rw [List.mem_map]
  constructor
  · rintro ⟨i, hi, rfl⟩
    have := List.mem_range.mp hi
    omega
  · rintro ⟨h1, h2⟩
    exact ⟨(c - 1).toNat, List.mem_range.mpr (by omega), by omega⟩
theorem cr_len (m : Nat) : (cr m).length = m := by unfold cr; rw [List.length_map, List.length_range]
theorem cr_ss (m : Nat) : SS (cr m) := by
  unfold cr SS
  rw [List.pairwise_map]
  exact List.pairwise_lt_range.imp fun h => by omega
def pwr (pw : List Int) (c : Int) : Int := pw.getD (c - 1).toNat 0
section
variable (roads : List (Int × Int)) (pw : List Int) (m : Nat)
def Burns (c : Int) (s : List Int) : Bool := decide (pwr pw c < (rto roads c s : Nat))
def cand (found : List Int) : List Int := (cr m).filter fun c => !decide (c ∈ 0 :: found) && Burns roads pw c (0 :: found)
def bseq : Nat → List Int
  | 0 => []
  | i + 1 => bseq i ++ (cand roads pw m (bseq i)).take 1
def burnt : List Int := bseq roads pw m m
/-- each burns at its place -/
def Ordl : List Int → List Int → Prop
  | _, [] => True
  | s, c :: r => c ∉ s ∧ Burns roads pw c s = true ∧ Ordl (s ++ [c]) r
def Kept (l : List Int) : Prop := l ≠ [] ∧ ∀ c ∈ l, ¬ pwr pw c < (wout roads c l : Nat)
end
section
variable {roads : List (Int × Int)} {pw : List Int} {m : Nat}
theorem ord_snoc {c : Int} : ∀ {l s : List Int}, Ordl roads pw s l → c ∉ s ++ l → Burns roads pw c (s ++ l) = true → Ordl roads pw s (l ++ [c])
  | [], s, _, h1, h2 => by
    rw [List.append_nil] at h1 h2
    exact ⟨h1, h2, trivial⟩
  | x :: r, s, h, h1, h2 => by
    have e : s ++ x :: r = s ++ [x] ++ r := by rw [List.append_assoc]; rfl
    rw [e] at h1 h2
    exact ⟨h.1, h.2.1, ord_snoc h.2.2 h1 h2⟩
theorem ord_nodup : ∀ {l s : List Int}, Ordl roads pw s l → l.Nodup ∧ ∀ x ∈ l, x ∉ s
  | [], _, _ => ⟨List.nodup_nil, fun _ h => by cases h⟩
  | c :: r, s, h => by
    obtain ⟨h1, h2⟩ := ord_nodup h.2.2
    refine ⟨List.nodup_cons.mpr ⟨fun z => h2 c z (List.mem_append.mpr (.inr List.mem_cons_self)), h1⟩, fun x hx => ?_⟩
    rcases List.mem_cons.mp hx with e | e
    · subst e; exact h.1
    · exact fun z => h2 x e (List.mem_append.mpr (.inl z))
theorem ord_off {l0 : List Int} (hk : Kept roads pw l0) : ∀ {l s : List Int}, Ordl roads pw s l → (∀ x ∈ s, x ∉ l0) → ∀ x ∈ l, x ∉ l0
  | [], _, _, _, _, h => by cases h
  | c :: r, s, h, hs, x, hx => by
    have hc : c ∉ l0 := fun z => by
      refine hk.2 c z ?_
      have h1 : pwr pw c < (rto roads c s : Nat) := of_decide_eq_true h.2.1
      have h2 := to_le_out (c := c) (roads := roads) hs
      omega
    rcases List.mem_cons.mp hx with e | e
    · subst e; exact hc
    · exact ord_off hk h.2.2 (fun y hy => (List.mem_append.mp hy).elim (hs y) fun z => by
        have : y = c := by simpa using z
        subst this; exact hc) x e
theorem bseq_inv : ∀ i, Ordl roads pw [0] (bseq roads pw m i) ∧ (∀ x ∈ bseq roads pw m i, x ∈ cr m) ∧ ((bseq roads pw m i).length = i ∨ cand roads pw m (bseq roads pw m i) = [])
  | 0 => ⟨trivial, (fun _ h => by cases h), .inl rfl⟩
  | i + 1 => by
    obtain ⟨h1, h2, h3⟩ := bseq_inv i
    have e : bseq roads pw m (i + 1) = bseq roads pw m i ++ (cand roads pw m (bseq roads pw m i)).take 1 := rfl
    cases q : cand roads pw m (bseq roads pw m i) with
    | nil =>
      rw [q] at e
      have e' : bseq roads pw m (i + 1) = bseq roads pw m i := by rw [e]; exact List.append_nil _
      rw [e']
      exact ⟨h1, h2, .inr q⟩
    | cons c r =>
      rw [q] at e
      have e' : bseq roads pw m (i + 1) = bseq roads pw m i ++ [c] := e
      rw [e']
      have hc : c ∈ cand roads pw m (bseq roads pw m i) := by rw [q]; exact List.mem_cons_self
      obtain ⟨c1, c2⟩ := List.mem_filter.mp hc
      rw [Bool.and_eq_true, Bool.not_eq_true', decide_eq_false_iff_not] at c2
      refine ⟨ord_snoc h1 c2.1 c2.2, fun x hx => ?_, .inl ?_⟩
      · rcases List.mem_append.mp hx with z | z
        · exact h2 x z
        · have : x = c := by simpa using z
          subst this; exact c1
      · rw [List.length_append]
        rcases h3 with h | h
        · rw [h]; rfl
        · rw [h] at q; cases q
def left (found : List Int) (m : Nat) : List Int := (cr m).filter fun c => !decide (c ∈ found)
theorem mem_left {found : List Int} {c : Int} : c ∈ left found m ↔ c ∈ cr m ∧ c ∉ found := by
  unfold left
  rw [List.mem_filter, Bool.not_eq_true', decide_eq_false_iff_not]
/-- what does not burn is kept -/
theorem left_kept (hg : Good ((m : Int) + 1) roads) (h : (burnt roads pw m).length ≠ m) : Kept roads pw (left (burnt roads pw m) m) := by
  obtain ⟨h1, h2, h3⟩ := bseq_inv (roads := roads) (pw := pw) (m := m) m
  have hc : cand roads pw m (burnt roads pw m) = [] := h3.elim (fun z => absurd z h) id
  refine ⟨fun z => h ?_, fun c hcl => ?_⟩
  · have hn := (ord_nodup h1).1
    have a := nodup_le hn h2
    have b := nodup_le (cr_ss m).nodup (m := burnt roads pw m) fun x hx => by
      refine Classical.not_not.mp fun y => ?_
      have : x ∈ left (burnt roads pw m) m := mem_left.mpr ⟨hx, y⟩
      rw [z] at this; cases this
    rw [cr_len] at a b
    exact Nat.le_antisymm a b
  · obtain ⟨c1, c2⟩ := mem_left.mp hcl
    have c3 := mem_cr.mp c1
    have nb : ¬ c ∈ cand roads pw m (burnt roads pw m) := by rw [hc]; exact fun z => by cases z
    have e : wout roads c (left (burnt roads pw m) m) = rto roads c (0 :: burnt roads pw m) := out_to hg hcl fun x x0 x1 _ => by
      rw [mem_left, mem_cr, List.mem_cons, not_or]
      constructor
      · rintro ⟨a, b⟩; exact ⟨by omega, b⟩
      · rintro ⟨a, b⟩; exact ⟨⟨by omega, by omega⟩, b⟩
    rw [e]
    intro z
    refine nb (List.mem_filter.mpr ⟨c1, ?_⟩)
    rw [Bool.and_eq_true, Bool.not_eq_true', decide_eq_false_iff_not, List.mem_cons, not_or]
    exact ⟨⟨by omega, c2⟩, decide_eq_true z⟩
/-- a row that burns through, no lot is kept -/
theorem ord_none {l : List Int} (h : Ordl roads pw [0] l) (hp : ∀ x ∈ cr m, x ∈ l) {l0 : List Int} (hl : ∀ x ∈ l0, x ∈ cr m) : ¬ Kept roads pw l0 := fun hk => by
  have off := ord_off hk h fun x hx z => by
    have : x = 0 := by simpa using hx
    subst this
    have := mem_cr.mp (hl 0 z)
    omega
  cases l0 with
  | nil => exact hk.1 rfl
  | cons x r => exact off x (hp x (hl x List.mem_cons_self)) List.mem_cons_self
theorem full_all (h : (burnt roads pw m).length = m) : ∀ x ∈ cr m, x ∈ burnt roads pw m := fun x hx => by
  obtain ⟨h1, h2, h3⟩ := bseq_inv (roads := roads) (pw := pw) (m := m) m
  have hn := (ord_nodup h1).1
  refine Classical.not_not.mp fun z => ?_
  have := nodup_le (l := x :: burnt roads pw m) (m := cr m) (List.nodup_cons.mpr ⟨z, hn⟩) fun y hy => by
    rcases List.mem_cons.mp hy with e | e
    · subst e; exact hx
    · exact h2 y e
  rw [List.length_cons, h, cr_len] at this
  omega
theorem burnt_ord : Ordl roads pw [0] (burnt roads pw m) := (bseq_inv m).1
theorem burnt_cr : ∀ x ∈ burnt roads pw m, x ∈ cr m := (bseq_inv m).2.1
/-- burnt through exactly if no lot is kept -/
theorem full_iff (hg : Good ((m : Int) + 1) roads) : (burnt roads pw m).length = m ↔ ∀ l, (∀ x ∈ l, x ∈ cr m) → ¬ Kept roads pw l :=
  ⟨fun h l hl => ord_none burnt_ord (full_all h) hl, fun h => Classical.not_not.mp fun z => h _ (fun x hx => (mem_left.mp hx).1) (left_kept hg z)⟩
theorem full_of_ord (hg : Good ((m : Int) + 1) roads) {l : List Int} (h : Ordl roads pw [0] l) (hp : ∀ x ∈ cr m, x ∈ l) : (burnt roads pw m).length = m := (full_iff hg).mpr fun _ hl => ord_none h hp hl
end
end K25

set_option Elab.async false
set_option linter.all false
set_option maxRecDepth 100000
namespace K25
open PySem PySem.Spec PyProof.Rows L2 W2 PySem.W

/-! ### the small defs -/
def liD (l : List Int) : W2.D := .list (l.map .int)
def IsRow (d : W2.D) (l : List Int) : Prop := d = lotD l ∨ d = liD l
theorem shaped_li (l : List Int) : SeqAt.shaped (liD l) = true := shaped_of (lay_ints l) (Nat.succ_le_succ (Nat.le_trans (depthAll_map (e := PyData.int) (n := 0) (fun _ => Nat.le_refl 0) _) (by decide)))
theorem in_row {neg : Bool} {x : Int} {l : List Int} {d : W2.D} {Q : W2.D → Prop} (hd : IsRow d l) (h : Q (.bool (if neg then !decide (x ∈ l) else decide (x ∈ l)))) : gInA neg (.int x) d Q := by
  rcases hd with rfl | rfl
  · exact in_lot h
  · refine ⟨rfl, shaped_li l, ?_⟩
    rw [any_int]
    exact h
theorem len_ints {l : List Int} {f : Int → Bool} : ((l.filter f).map fun _ => PyData.int 1).length = (l.filter f).length := List.length_map _
def wf_to : WF := fun ds Q => ∃ (n : Int) (roads : List (Int × Int)) (c : Int) (l : List Int) (d : W2.D), ds = [frD n roads, .int c, d] ∧ IsRow d l ∧ roads.length ≤ 1000 ∧ Q (.int (rto roads c l : Nat))
theorem hw_to (ds : List W2.D) (Q : W2.D → Prop) (_ : ds.length = 3) (h : wf_to ds Q) : wb_roads_to { nx := fun _ => Q .none, rt := Q } (startE ["frame", "crossing", "lot", "pairs", "a", "b"] (ds.map .fz)) := by
  obtain ⟨n, roads, c, l, d, rfl, hd, hl, q⟩ := h
  refine ⟨.tuple (roads.map rdD), rfl, ?_⟩
  show lcGo _ _ _ _ (roads.map rdD) [] _
  refine lc_fm rdD (fun p => if (decide (c ∈ [p.1, p.2]) && !(p.1 == p.2)) = true then some (rdD p) else none) roads (fun p hp R hR => ?_) (le_line (by omega)) ?_
  · refine ⟨rfl, (show 2 ≤ sizeLine by decide), ?_⟩
    refine in_lot (l := [p.1, p.2]) ?_
    show (if decide (c ∈ [p.1, p.2]) = true then _ else _)
    cases q1 : decide (c ∈ [p.1, p.2]) with
    | false =>
      rw [q1, Bool.false_and, if_neg Bool.false_ne_true] at hR
      exact hR
    | true =>
      rw [q1, Bool.true_and] at hR
      refine ⟨eqOk_of rfl rfl, ?_⟩
      show (if (!(p.1 == p.2)) = true then _ else R none)
      cases q2 : (p.1 == p.2) with
      | true =>
        rw [q2] at hR
        exact hR
      | false =>
        rw [q2] at hR
        exact ⟨(show 2 ≤ sizeLine by decide), hR⟩
  · rw [filterMap_some]
    show lcGo _ _ _ _ ((roads.filter _).map rdD) [] _
    refine lc_fm rdD (fun p => if decide (p.1 + p.2 - c ∈ l) = true then some (.int 1) else none) _ (fun p hp R hR => ?_) (le_line (Nat.le_trans (List.length_filter_le _ _) (by omega))) ?_
    · refine ⟨rfl, ?_⟩
      refine in_row hd ?_
      show (if decide (p.1 + p.2 - c ∈ l) = true then R (some (.int 1)) else R none)
      cases q1 : decide (p.1 + p.2 - c ∈ l) with
      | false => rw [q1] at hR; exact hR
      | true => rw [q1] at hR; exact hR
    · rw [filterMap_some, List.filter_filter]
      show Q (.int (((roads.filter _).map fun _ => PyData.int 1).length : Nat))
      rw [List.length_map]
      have e : (roads.filter fun p => decide (p.1 + p.2 - c ∈ l) && (decide (c ∈ [p.1, p.2]) && !(p.1 == p.2))) = roads.filter (isTo c l) := List.filter_congr fun p _ => Bool.and_comm _ _
      rw [e]
      exact q
def wf_out : WF := fun ds Q => ∃ (n : Int) (roads : List (Int × Int)) (c : Int) (l : List Int) (d : W2.D), ds = [frD n roads, .int c, d] ∧ IsRow d l ∧ roads.length ≤ 1000 ∧ Q (.int (wout roads c l : Nat))
theorem hw_out (ds : List W2.D) (Q : W2.D → Prop) (_ : ds.length = 3) (h : wf_out ds Q) : wb__law_ways_out { nx := fun _ => Q .none, rt := Q } (startE ["frame", "crossing", "lot", "a", "b"] (ds.map .fz)) := by
  obtain ⟨n, roads, c, l, d, rfl, hd, hl, q⟩ := h
  refine ⟨.tuple (roads.map rdD), rfl, ?_⟩
  show lcGo _ _ _ _ (roads.map rdD) [] _
  refine lc_fm rdD (fun p => if isOut c l p = true then some (.int 1) else none) roads (fun p hp R hR => ?_) (le_line (by omega)) ?_
  · refine ⟨rfl, eqOk_of rfl rfl, ?_⟩
    unfold isOut at hR
    have second : (R (if (p.2 == c && !decide (p.1 ∈ l)) = true then some (.int 1) else none)) → eqOk (.int p.2) (.int c) = true ∧ (if (p.2 == c) = true then gInA true (.int p.1) d fun z => match z with | .bool k => if k = true then R (some (.int 1)) else R none | _ => False else R none) := fun hR => by
      refine ⟨eqOk_of rfl rfl, ?_⟩
      cases q1 : (p.2 == c) with
      | false => rw [q1] at hR; exact hR
      | true =>
        rw [q1, Bool.true_and] at hR
        rw [if_pos rfl]
        refine in_row hd ?_
        show (if (!decide (p.1 ∈ l)) = true then R (some (.int 1)) else R none)
        cases q2 : (!decide (p.1 ∈ l)) with
        | false => rw [q2] at hR; exact hR
        | true => rw [q2] at hR; exact hR
    show (if (p.1 == c) = true then _ else _)
    cases q1 : (p.1 == c) with
    | false =>
      rw [q1, Bool.false_and, Bool.false_or] at hR
      rw [if_neg Bool.false_ne_true]
      obtain ⟨a, b⟩ := second hR
      refine ⟨a, ?_⟩
      show (if (p.2 == c) = true then _ else R none)
      cases q3 : (p.2 == c) with
      | false => rw [q3] at b; exact b
      | true => rw [q3, if_pos rfl] at b; exact b
    | true =>
      rw [q1, Bool.true_and] at hR
      rw [if_pos rfl]
      refine in_row hd ?_
      show (if (!decide (p.2 ∈ l)) = true then R (some (.int 1)) else _)
      cases q2 : (!decide (p.2 ∈ l)) with
      | true => rw [q2] at hR; exact hR
      | false =>
        rw [q2, Bool.false_or] at hR
        rw [if_neg Bool.false_ne_true]
        obtain ⟨a, b⟩ := second hR
        refine ⟨a, ?_⟩
        show (if (p.2 == c) = true then _ else R none)
        cases q3 : (p.2 == c) with
        | false => rw [q3] at b; exact b
        | true => rw [q3, if_pos rfl] at b; exact b
  · rw [filterMap_some]
    show Q (.int (((roads.filter (isOut c l)).map fun _ => PyData.int 1).length : Nat))
    rw [List.length_map]
    exact q
/-! ### whole numbers, powers -/
def isI : W2.D → Bool
  | .int _ => true
  | _ => false
def wf_isI : WF := fun ds Q => ∃ d, ds = [d] ∧ Q (.bool (isI d))
theorem hw_is_int (ds : List W2.D) (Q : W2.D → Prop) (_ : ds.length = 1) (h : wf_isI ds Q) : wb__law_is_int { nx := fun _ => Q .none, rt := Q } (startE ["value"] (ds.map .fz)) := by
  obtain ⟨d, rfl, q⟩ := h
  cases d <;> exact q
theorem hw_is_whole (ds : List W2.D) (Q : W2.D → Prop) (_ : ds.length = 1) (h : wf_isI ds Q) : wb_is_whole { nx := fun _ => Q .none, rt := Q } (startE ["value"] (ds.map .fz)) := by
  obtain ⟨d, rfl, q⟩ := h
  cases d <;> exact q
/-- whole and not less than nought -/
def isN : W2.D → Bool
  | .int i => decide (0 ≤ i)
  | _ => false
def isPw (n : Int) : W2.D → Bool
  | .tuple ds => ((ds.length : Int) == n - 1) && ds.all isN
  | _ => false
theorem lc_id {g : WG} {tt : WT} {we : WE} {η : En} {Q : W2.D → Prop} (f : W2.D → Option W2.D) (xs : List W2.D)
    (h : ∀ x ∈ xs, ∀ R : Option W2.D → Prop, R (f x) → g x η fun η1 => tt η1 fun b => if b = true then we η1 fun y => R (some y) else R none)
    (hl : xs.length ≤ sizeLine) (q : Q (.list (xs.filterMap f))) : lcGo g tt we η xs [] Q := by
  have e : xs = xs.map fun d => d := (List.map_id' xs).symm
  have := lc_fm (fun d : W2.D => d) f (g := g) (tt := tt) (we := we) (η := η) (Q := Q) xs h hl q
  rwa [← e] at this
theorem bools_map {α : Type} (f : α → Bool) : ∀ l : List α, boolsOf (l.map fun x => PyData.bool (f x)) = some (l.map f)
  | [] => rfl
  | x :: r => by
    rw [List.map_cons, List.map_cons]
    show (boolsOf (r.map fun x => PyData.bool (f x))).map _ = _
    rw [bools_map f r]; rfl
def Sh (d : W2.D) : Prop := d.canLay0 = true ∧ d.depth ≤ 60
theorem lay_all {ds : List W2.D} (h : ∀ d ∈ ds, Sh d) : PyData.canLayAll0 ds = true ∧ PyData.depthAll ds ≤ 60 := by
  induction ds with
  | nil => exact ⟨rfl, Nat.zero_le _⟩
  | cons x r ih =>
    obtain ⟨a, b⟩ := ih fun d hd => h d (List.mem_cons_of_mem _ hd)
    obtain ⟨c, e⟩ := h x List.mem_cons_self
    refine ⟨?_, ?_⟩
    · show (x.canLay0 && PyData.canLayAll0 r) = true
      rw [a, c]; rfl
    · show max x.depth (PyData.depthAll r) ≤ 60
      exact Nat.max_le.mpr ⟨e, b⟩
theorem shaped_list {ds : List W2.D} (h : ∀ d ∈ ds, Sh d) : SeqAt.shaped (.list ds) = true := shaped_of (lay_all h).1 (show PyData.depthAll ds + 1 ≤ 64 by have := (lay_all h).2; omega)
theorem shaped_tup {ds : List W2.D} (h : ∀ d ∈ ds, Sh d) : SeqAt.shaped (.tuple ds) = true := shaped_of (lay_all h).1 (show PyData.depthAll ds + 1 ≤ 64 by have := (lay_all h).2; omega)
theorem eqv_nil (ds : List W2.D) : PyData.eqv (.list ds) (.list []) = ds.isEmpty := by cases ds <;> rfl
/-- a tuple's items are layable -/
def TupOk (d : W2.D) : Prop := ∀ ds, d = .tuple ds → ds.length ≤ 1000 ∧ ∀ x ∈ ds, Sh x
def wf_arePw : WF := fun ds Q => ∃ (n : Int) (v : W2.D), ds = [.int n, v] ∧ TupOk v ∧ Q (.bool (isPw n v))
theorem hw_arePw (ds : List W2.D) (Q : W2.D → Prop) (_ : ds.length = 2) (h : wf_arePw ds Q) : wb__law_are_powers wf_isI { nx := fun _ => Q .none, rt := Q } (startE ["n", "value", "one"] (ds.map .fz)) := by
  obtain ⟨n, v, rfl, ht, q⟩ := h
  cases v with
  | tuple ds =>
    obtain ⟨h1, h2⟩ := ht ds rfl
    refine ⟨true, rfl, ?_⟩
    refine ⟨eqOk_of rfl rfl, ?_⟩
    show (if (!((ds.length : Int) == n - 1)) = true then Q (.bool false) else _)
    have q' : Q (.bool (((ds.length : Int) == n - 1) && ds.all isN)) := q
    cases q1 : ((ds.length : Int) == n - 1) with
    | false => rw [q1] at q'; exact q'
    | true =>
      rw [q1, Bool.true_and] at q'
      rw [if_neg (by decide)]
      show lcGo _ _ _ _ ds [] _
      refine lc_id (fun d => if (!isN d) = true then some ((fun d => d) d) else none) ds (fun d hd R hR => ?_) (le_line (by omega)) ?_
      · refine ⟨rfl, d, rfl, isI d, rfl, ?_⟩
        cases d with
        | int i =>
          show (if decide (i < 0) = true then R (some (.int i)) else R none)
          have hR' : R (if (!decide (0 ≤ i)) = true then some (.int i) else none) := hR
          by_cases c : i < 0
          · rw [if_pos (decide_eq_true c)]
            rw [if_pos (by simp; omega)] at hR'
            exact hR'
          · rw [if_neg (by simp; omega)]
            rw [if_neg (by simp; omega)] at hR'
            exact hR'
        | _ => exact hR
      · rw [filterMap_some, List.map_id']
        refine ⟨Nat.zero_le _, eqOk_of (shaped_list fun d hd => h2 d (List.mem_filter.mp hd).1) rfl, ?_⟩
        rw [eqv_nil]
        have e : (ds.filter fun d => !isN d).isEmpty = ds.all isN := by
          rw [Bool.eq_iff_iff, List.isEmpty_iff, List.filter_eq_nil_iff, List.all_eq_true]
          constructor
          · intro h x hx; have := h x hx; simpa using this
          · intro h x hx; have := h x hx; simp [this]
        rw [e]
        exact q'
  | _ => exact ⟨false, rfl, q⟩
theorem hw_isPw (ds : List W2.D) (Q : W2.D → Prop) (_ : ds.length = 2) (h : wf_arePw ds Q) : wb_is_powers wf_isI { nx := fun _ => Q .none, rt := Q } (startE ["n", "value", "one"] (ds.map .fz)) := by
  obtain ⟨n, v, rfl, ht, q⟩ := h
  cases v with
  | tuple ds =>
    obtain ⟨h1, h2⟩ := ht ds rfl
    refine ⟨true, rfl, ?_⟩
    refine ⟨eqOk_of rfl rfl, ?_⟩
    show (if (!((ds.length : Int) == n - 1)) = true then Q (.bool false) else _)
    have q' : Q (.bool (((ds.length : Int) == n - 1) && ds.all isN)) := q
    cases q1 : ((ds.length : Int) == n - 1) with
    | false => rw [q1] at q'; exact q'
    | true =>
      rw [q1, Bool.true_and] at q'
      rw [if_neg (by decide)]
      show lcGo _ _ _ _ ds [] _
      refine lc_id (fun d => some (PyData.bool (isN d))) ds (fun d hd R hR => ?_) (le_line (by omega)) ?_
      · refine ⟨rfl, d, rfl, ?_⟩
        cases d <;> exact hR
      · have e : (ds.filterMap fun d => some (PyData.bool (isN d))) = ds.map fun d => PyData.bool (isN d) := congrFun List.filterMap_eq_map _
        rw [e]
        refine ⟨_, bools_map isN ds, ?_⟩
        rw [List.all_map]
        exact q'
  | _ => exact ⟨false, rfl, q⟩
/-! ### burning -/
def rowPw (pw : List Int) : W2.D := .tuple (pw.map .int)
theorem ix_pw {pw : List Int} {c : Int} {P : W2.D → Prop} (h0 : 0 < c) (h1 : c ≤ pw.length) (h : P (.int (pwr pw c))) : gIxA (rowPw pw) (.int (c - 1)) P := by
  have hi : (c - 1).toNat < pw.length := by omega
  have e : L2.atI (pw.map PyData.int) (c - 1) = some (.int (pwr pw c)) := by
    unfold L2.atI ixN
    rw [List.length_map, if_pos (by omega), if_pos (by omega)]
    show (pw.map PyData.int)[(c - 1).toNat]? = _
    rw [List.getElem?_map, List.getElem?_eq_getElem hi]
    unfold pwr
    rw [List.getD_eq_getElem?_getD, List.getElem?_eq_getElem hi]; rfl
  exact ⟨_, e, h⟩
theorem rng_cr (m : Nat) : rangeD 1 ((((m : Int) + 1)) - 1).toNat = (cr m).map PyData.int := by
  have e : ((((m : Int) + 1)) - 1).toNat = m := by omega
  rw [e]
  unfold rangeD cr
  rw [List.map_map]
  rfl
def wf_burnt : WF := fun ds Q => ∃ (m : Nat) (roads : List (Int × Int)) (pw : List Int), ds = [frD ((m : Int) + 1) roads, rowPw pw] ∧ m ≤ 100 ∧ pw.length = m ∧ roads.length ≤ 1000 ∧ Q (lotD (burnt roads pw m))
theorem bseq_len (roads : List (Int × Int)) (pw : List Int) (m : Nat) : ∀ i, (bseq roads pw m i).length ≤ i
  | 0 => Nat.zero_le _
  | i + 1 => by
    show (bseq roads pw m i ++ (cand roads pw m (bseq roads pw m i)).take 1).length ≤ _
    have := bseq_len roads pw m i
    rw [List.length_append, List.length_take]
    omega
theorem cut1 (l : List Int) : W2.cutD (l.map PyData.int) none (some 1) = (l.take 1).map .int := by
  unfold W2.cutD
  cases l with
  | nil => rfl
  | cons x r => 
    have e : HT.sIx (List.map PyData.int (x :: r)).length (List.map PyData.int (x :: r)).length (some 1) = 1 := by
      rw [show (some (1 : Int)) = some ((1 : Nat) : Int) from rfl, HT.sIx_nat, List.length_map, List.length_cons]; omega
    rw [e]
    rfl
def nd (s : Slot) : Bool := match s with
  | .ow (.dict _) => false
  | _ => true
theorem hw_burnt (ds : List W2.D) (Q : W2.D → Prop) (_ : ds.length = 2) (h : wf_burnt ds Q) : wb_burnt_in_sequence wf_to { nx := fun _ => Q .none, rt := Q } (startE ["frame", "powers", "met", "found", "lap", "some", "c"] (ds.map .fz)) := by
  obtain ⟨m, roads, pw, rfl, hm, hp, hl, q⟩ := h
  refine ⟨(show 1 ≤ sizeLine by decide), (show 0 ≤ sizeLine by decide), rfl, ?_⟩
  refine ⟨_, rfl, ⟨by omega, by omega, by omega, by omega⟩, ?_⟩
  show forGo _ _ _ (rangeD 1 ((((m : Int) + 1)) - 1).toNat) _
  rw [rng_cr]
  unfold cr
  rw [List.map_map]
  refine for_ix _ (fun i η => ∃ a b c, nd b = true ∧ η = [.fz (frD ((m : Int) + 1) roads), .fz (rowPw pw), .ow (liD (0 :: bseq roads pw m i)), .ow (liD (bseq roads pw m i)), a, b, c]) (fun i hi η hI Kc hK => ?_) (fun η hI => ?_) ⟨.un, .un, .un, rfl, rfl⟩
  · obtain ⟨a, b, c, hnd, rfl⟩ := hI
    refine ⟨_, rfl, ⟨by omega, by omega, by omega, by omega⟩, ?_⟩
    show lcGo _ _ _ _ (rangeD 1 ((((m : Int) + 1)) - 1).toNat) [] _
    rw [rng_cr]
    refine lc_fm PyData.int (fun c => if (!decide (c ∈ 0 :: bseq roads pw m i) && Burns roads pw c (0 :: bseq roads pw m i)) = true then some (.int c) else none) (cr m) (fun c hc R hR => ?_) (le_line (by rw [cr_len]; omega)) ?_
    · have hc' := mem_cr.mp hc
      refine ⟨rfl, shaped_li (0 :: bseq roads pw m i), ?_⟩
      rw [any_int]
      show (if (!decide (c ∈ 0 :: bseq roads pw m i)) = true then _ else R none)
      cases q1 : (!decide (c ∈ 0 :: bseq roads pw m i)) with
      | false => rw [q1] at hR; exact hR
      | true =>
        rw [q1, Bool.true_and] at hR
        rw [if_pos rfl]
        refine ix_pw hc'.1 (by omega) ?_
        refine ⟨(show (true && (true && (true && (true && (true && (nd b && (true && true))))))) = true by rw [hnd]; rfl), rfl, ((m : Int) + 1), roads, c, 0 :: bseq roads pw m i, _, rfl, .inr rfl, hl, rfl, ?_⟩
        show (if Burns roads pw c (0 :: bseq roads pw m i) = true then R (some (.int c)) else R none)
        cases q2 : Burns roads pw c (0 :: bseq roads pw m i) with
        | false => rw [q2] at hR; exact hR
        | true => rw [q2] at hR; exact hR
    · rw [filterMap_some]
      have ec : (cr m).filter (fun c => !decide (c ∈ 0 :: bseq roads pw m i) && Burns roads pw c (0 :: bseq roads pw m i)) = cand roads pw m (bseq roads pw m i) := rfl
      rw [ec]
      have hb := bseq_len roads pw m i
      have h1 : ((cand roads pw m (bseq roads pw m i)).take 1).length ≤ 1 := by rw [List.length_take]; omega
      refine ⟨rfl, ?_⟩
      show (_ : Nat) + (W2.cutD ((cand roads pw m (bseq roads pw m i)).map PyData.int) none (some 1)).length ≤ sizeLine ∧ _
      rw [cut1]
      refine ⟨by rw [List.length_map, List.length_map, sizeLine_eq]; omega, rfl, ?_⟩
      show (_ : Nat) + (W2.cutD ((cand roads pw m (bseq roads pw m i)).map PyData.int) none (some 1)).length ≤ sizeLine ∧ _
      rw [cut1]
      refine ⟨by rw [List.length_map, List.length_map, List.length_cons, sizeLine_eq]; omega, ?_⟩
      refine hK _ ⟨.fz (.int (1 + (i : Int))), .fz (liD (cand roads pw m (bseq roads pw m i))), c, rfl, ?_⟩
      unfold liD
      rw [← List.map_append, ← List.map_append]
      rfl
  · obtain ⟨a, b, c, hnd, rfl⟩ := hI
    exact q
/-! ### papers, parkings -/
def leftD (l : List Int) : W2.D := .tuple [.str "lot", lotD l]
def burnsD (l : List Int) : W2.D := .tuple [.str "burns", lotD l]
def paper (roads : List (Int × Int)) (pw : List Int) (m : Nat) : W2.D := if (burnt roads pw m).length = m then burnsD (burnt roads pw m) else leftD (left (burnt roads pw m) m)
def wf_paper : WF := fun ds Q => ∃ (m : Nat) (roads : List (Int × Int)) (pw : List Int), ds = [frD ((m : Int) + 1) roads, rowPw pw] ∧ m ≤ 100 ∧ pw.length = m ∧ roads.length ≤ 1000 ∧ Q (paper roads pw m)
theorem hw_paper (ds : List W2.D) (Q : W2.D → Prop) (_ : ds.length = 2) (h : wf_paper ds Q) : wb_burn_paper wf_burnt { nx := fun _ => Q .none, rt := Q } (startE ["frame", "powers", "burnt", "crossing"] (ds.map .fz)) := by
  obtain ⟨m, roads, pw, rfl, hm, hp, hl, q⟩ := h
  refine ⟨rfl, m, roads, pw, rfl, hm, hp, hl, ?_⟩
  refine ⟨_, rfl, eqOk_of rfl rfl, ?_⟩
  show (if ((((burnt roads pw m).map PyData.int).length : Int) == (m : Int) + 1 - 1) = true then _ else _)
  unfold paper at q
  by_cases c : (burnt roads pw m).length = m
  · rw [if_pos c] at q
    rw [if_pos (by rw [List.length_map, beq_iff_eq]; omega)]
    exact ⟨(show 2 ≤ sizeLine by decide), q⟩
  · rw [if_neg c] at q
    rw [if_neg (by rw [List.length_map, beq_iff_eq]; omega)]
    refine ⟨_, rfl, ⟨by omega, by omega, by omega, by omega⟩, ?_⟩
    show lcGo _ _ _ _ (rangeD 1 ((((m : Int) + 1)) - 1).toNat) [] _
    rw [rng_cr]
    refine lc_fm PyData.int (fun c => if (!decide (c ∈ burnt roads pw m)) = true then some (.int c) else none) (cr m) (fun c hc R hR => ?_) (le_line (by rw [cr_len]; omega)) ?_
    · refine ⟨rfl, shaped_lot (burnt roads pw m), ?_⟩
      rw [any_int]
      show (if (!decide (c ∈ burnt roads pw m)) = true then R (some (.int c)) else R none)
      cases q1 : (!decide (c ∈ burnt roads pw m)) with
      | false => rw [q1] at hR; exact hR
      | true => rw [q1] at hR; exact hR
    · rw [filterMap_some]
      exact ⟨(show 2 ≤ sizeLine by decide), q⟩
/-- parkings -/
def isPkT (roads : List (Int × Int)) (m : Nat) (ds : List W2.D) : Bool := isPw ((m : Int) + 1) (.tuple ds) && match intsOf ds with
  | some pw => decide ((burnt roads pw m).length = m)
  | none => false
def isPk (roads : List (Int × Int)) (m : Nat) : W2.D → Bool
  | .tuple ds => isPkT roads m ds
  | _ => false
theorem ints_of : ∀ {ds : List W2.D}, ds.all isN = true → ∃ pw : List Int, ds = pw.map .int ∧ intsOf ds = some pw ∧ ∀ x ∈ pw, 0 ≤ x
  | [], _ => ⟨[], rfl, rfl, fun _ h => by cases h⟩
  | d :: r, h => by
    rw [List.all_cons, Bool.and_eq_true] at h
    obtain ⟨pw, e1, e2, e3⟩ := ints_of h.2
    cases d with
    | int i =>
      refine ⟨i :: pw, by rw [List.map_cons, ← e1], ?_, fun x hx => ?_⟩
      · show (intsOf r).map _ = _
        rw [e2]; rfl
      · rcases List.mem_cons.mp hx with z | z
        · subst z; exact of_decide_eq_true h.1
        · exact e3 x z
    | _ => cases h.1
def wf_park : WF := fun ds Q => ∃ (m : Nat) (roads : List (Int × Int)) (v : W2.D), ds = [frD ((m : Int) + 1) roads, v] ∧ TupOk v ∧ m ≤ 100 ∧ roads.length ≤ 1000 ∧ Q (.bool (isPk roads m v))
theorem hw_park (ds : List W2.D) (Q : W2.D → Prop) (_ : ds.length = 2) (h : wf_park ds Q) : wb_is_parking wf_arePw wf_burnt { nx := fun _ => Q .none, rt := Q } (startE ["frame", "value"] (ds.map .fz)) := by
  obtain ⟨m, roads, v, rfl, ht, hm, hl, q⟩ := h
  refine ⟨_, rfl, rfl, (m : Int) + 1, v, rfl, ht, ?_⟩
  show (match PyData.bool (isPw ((m : Int) + 1) v) with | .bool true => _ | .bool false => Q (.bool false) | _ => False)
  cases c : isPw ((m : Int) + 1) v with
  | false =>
    have : isPk roads m v = false := by
      cases v <;> first | rfl | skip
      show isPkT roads m _ = false
      unfold isPkT
      rw [c]; rfl
    rw [this] at q
    exact q
  | true =>
    cases v with
    | tuple ds =>
      have c' : (((ds.length : Int) == (m : Int) + 1 - 1) && ds.all isN) = true := c
      rw [Bool.and_eq_true, beq_iff_eq] at c'
      obtain ⟨pw, e1, e2, e3⟩ := ints_of c'.2
      have e : isPk roads m (.tuple ds) = decide ((burnt roads pw m).length = m) := by
        show isPkT roads m ds = _
        unfold isPkT
        rw [c, e2]; rfl
      rw [e] at q
      subst e1
      have hp : pw.length = m := by have := c'.1; rw [List.length_map] at this; omega
      refine ⟨rfl, m, roads, pw, rfl, hm, hp, hl, ?_⟩
      refine ⟨_, rfl, eqOk_of rfl rfl, ?_⟩
      show Q (.bool ((((burnt roads pw m).map PyData.int).length : Int) == (m : Int) + 1 - 1))
      have e5 : ((((burnt roads pw m).map PyData.int).length : Int) == (m : Int) + 1 - 1) = decide ((burnt roads pw m).length = m) := by
        rw [List.length_map, Bool.eq_iff_iff, beq_iff_eq, decide_eq_true_iff]; omega
      rw [e5]
      exact q
    | _ => cases c
end K25

set_option Elab.async false
set_option linter.all false
set_option maxRecDepth 100000
namespace K25
open PySem PySem.Spec PyProof.Rows L2 W2 PySem.W

/-! ### all lots of crossings -/
def lotsV : Nat → List (List Int)
  | 0 => [[]]
  | i + 1 => lotsV i ++ (lotsV i).map fun l => l ++ [1 + (i : Int)]
def lotsW (m : Nat) : List (List Int) := ((lotsV m).drop 1).mergeSort leL
theorem lotsV_len : ∀ n, (lotsV n).length = 2 ^ n
  | 0 => rfl
  | n + 1 => by
    unfold lotsV
    rw [List.length_append, List.length_map, lotsV_len n, Nat.pow_succ]
    omega
theorem lotsV_short : ∀ n l, l ∈ lotsV n → l.length ≤ n ∧ ∀ x ∈ l, x ∈ cr n
  | 0, l, h => by
    have : l = [] := by simpa [lotsV] using h
    subst this; exact ⟨Nat.le_refl _, fun _ h => by cases h⟩
  | n + 1, l, h => by
    unfold lotsV at h
    rcases List.mem_append.mp h with h | h
    · obtain ⟨a, b⟩ := lotsV_short n l h
      exact ⟨Nat.le_succ_of_le a, fun x hx => by have := mem_cr.mp (b x hx); exact mem_cr.mpr (by omega)⟩
    · obtain ⟨a, ha, rfl⟩ := List.mem_map.mp h
      obtain ⟨b, c⟩ := lotsV_short n a ha
      refine ⟨by rw [List.length_append]; exact Nat.succ_le_succ b, fun x hx => ?_⟩
      rcases List.mem_append.mp hx with z | z
      · have := mem_cr.mp (c x z); exact mem_cr.mpr (by omega)
      · have : x = 1 + (n : Int) := by simpa using z
        exact mem_cr.mpr (by omega)
theorem lotsV_head : ∀ n, ∃ t, lotsV n = [] :: t ∧ ∀ l ∈ t, l ≠ []
  | 0 => ⟨[], rfl, fun _ h => by cases h⟩
  | n + 1 => by
    obtain ⟨t, e, h⟩ := lotsV_head n
    have e' : lotsV (n + 1) = lotsV n ++ (lotsV n).map fun l => l ++ [1 + (n : Int)] := rfl
    refine ⟨t ++ ([] :: t).map fun l => l ++ [1 + (n : Int)], by rw [e', e]; rfl, fun l hl => ?_⟩
    rcases List.mem_append.mp hl with z | z
    · exact h l z
    · obtain ⟨a, _, rfl⟩ := List.mem_map.mp z
      exact fun z => by have := congrArg List.length z; rw [List.length_append] at this; simp at this
theorem cr_succ (m : Nat) : cr (m + 1) = cr m ++ [1 + (m : Int)] := by unfold cr; rw [List.range_succ, List.map_append]; rfl
theorem filter_lots (f : Int → Bool) : ∀ m, (cr m).filter f ∈ lotsV m
  | 0 => by exact List.mem_cons_self
  | m + 1 => by
    have ih := filter_lots f m
    rw [cr_succ, List.filter_append]
    unfold lotsV
    rw [List.mem_append]
    cases c : f (1 + (m : Int)) with
    | false => left; rw [List.filter_cons, c, if_neg Bool.false_ne_true, List.filter_nil, List.append_nil]; exact ih
    | true => right; rw [List.filter_cons, c, if_pos rfl, List.filter_nil]; exact List.mem_map.mpr ⟨_, ih, rfl⟩
theorem mem_lotsW {m : Nat} {l : List Int} (h : l ∈ lotsW m) : l ≠ [] ∧ l.length ≤ m ∧ ∀ x ∈ l, x ∈ cr m := by
  have h1 : l ∈ (lotsV m).drop 1 := (List.mergeSort_perm _ _).mem_iff.mp h
  obtain ⟨t, e, ht⟩ := lotsV_head m
  have h2 := lotsV_short m l (List.mem_of_mem_drop h1)
  rw [e] at h1
  exact ⟨ht l h1, h2.1, h2.2⟩
theorem filter_lotsW {m : Nat} {f : Int → Bool} (h : (cr m).filter f ≠ []) : (cr m).filter f ∈ lotsW m := by
  have h1 := filter_lots f m
  obtain ⟨t, e, ht⟩ := lotsV_head m
  refine (List.mergeSort_perm _ _).mem_iff.mpr ?_
  rw [e] at h1 ⊢
  rcases List.mem_cons.mp h1 with z | z
  · exact absurd z h
  · exact z
def wf_lots : WF := fun ds Q => ∃ m : Nat, ds = [.int ((m : Int) + 1)] ∧ m ≤ 10 ∧ Q (.list ((lotsW m).map lotD))
theorem hw_lots (ds : List W2.D) (Q : W2.D → Prop) (_ : ds.length = 1) (h : wf_lots ds Q) : wb__law_crossing_lots { nx := fun _ => Q .none, rt := Q } (startE ["n", "found", "crossing", "lot"] (ds.map .fz)) := by
  obtain ⟨m, rfl, hm, q⟩ := h
  refine ⟨Nat.zero_le _, (show 1 ≤ sizeLine by decide), ⟨by omega, by omega, by omega, by omega⟩, ?_⟩
  show forGo _ _ _ (rangeD 1 ((((m : Int) + 1)) - 1).toNat) _
  rw [rng_cr]
  unfold cr
  rw [List.map_map]
  refine for_ix _ (fun i η => ∃ a b, η = [.fz (.int ((m : Int) + 1)), .fz (.list ((lotsV i).map lotD)), a, b]) (fun i hi η hI Kc hK => ?_) (fun η hI => ?_) ⟨.un, .un, rfl⟩
  · obtain ⟨a, b, rfl⟩ := hI
    have hp : (lotsV i).length ≤ 1024 := by
      rw [lotsV_len]
      exact Nat.le_trans (Nat.pow_le_pow_right (by decide) (show i ≤ 10 by omega)) (by decide)
    show lcGo _ _ _ _ ((lotsV i).map lotD) [] _
    refine lc_fm lotD (fun l => some (lotD (l ++ [1 + (i : Int)]))) (lotsV i) (fun l hl R hR => ?_) (Nat.le_trans hp (by rw [sizeLine_eq]; decide)) ?_
    · refine ⟨(show 1 ≤ sizeLine by decide), ?_⟩
      refine ⟨?_, ?_⟩
      · show (l.map PyData.int).length + 1 ≤ sizeLine
        have := (lotsV_short i l hl).1
        rw [List.length_map, sizeLine_eq]
        omega
      · show R (some (.tuple (l.map PyData.int ++ [.int (1 + (i : Int))])))
        have e : lotD (l ++ [1 + (i : Int)]) = .tuple (l.map PyData.int ++ [.int (1 + (i : Int))]) := by
          unfold lotD
          rw [List.map_append]; rfl
        rw [← e]
        exact hR
    · have e : (lotsV i).filterMap (fun l => some (lotD (l ++ [1 + (i : Int)]))) = ((lotsV i).map fun l => l ++ [1 + (i : Int)]).map lotD := by
        rw [List.map_map]
        exact congrFun List.filterMap_eq_map _
      rw [e]
      refine ⟨?_, ?_⟩
      · rw [List.length_map, List.length_map, List.length_map, sizeLine_eq]
        omega
      · rw [← List.map_append]
        exact hK _ ⟨_, _, rfl⟩
  · obtain ⟨a, b, rfl⟩ := hI
    have hp : (lotsV m).length ≤ 1024 := by
      rw [lotsV_len]
      exact Nat.le_trans (Nat.pow_le_pow_right (by decide) (show m ≤ 10 by omega)) (by decide)
    have e : W2.cutD ((lotsV m).map lotD) (some 1) none = ((lotsV m).drop 1).map lotD := by
      obtain ⟨t, e, _⟩ := lotsV_head m
      unfold W2.cutD
      have e1 : HT.sIx ((lotsV m).map lotD).length 0 (some 1) = 1 := by
        rw [show (some (1 : Int)) = some ((1 : Nat) : Int) from rfl, HT.sIx_nat, List.length_map, e, List.length_cons]; omega
      rw [e1, HT.sIx_none, ← List.map_drop, List.take_of_length_le]
      rw [List.length_map, List.length_drop, List.length_map]
      exact Nat.le_refl _
    show PyData.canLayAll0 (W2.cutD ((lotsV m).map lotD) (some 1) none) = true ∧ sortOk (W2.cutD ((lotsV m).map lotD) (some 1) none) = true ∧ Q (.list (sortD (W2.cutD ((lotsV m).map lotD) (some 1) none)))
    rw [e]
    refine ⟨layAll_map lay_lot _, sortOk_lot _, ?_⟩
    rw [sortD_lot]
    exact q
/-! ### a lot kept -/
def KeptV (roads : List (Int × Int)) (pw : List Int) (m : Nat) (v : W2.D) : Prop := (v = .none ∧ (burnt roads pw m).length = m) ∨ ((∃ l, v = lotD l) ∧ (burnt roads pw m).length ≠ m)
def wf_kept : WF := fun ds Q => ∃ (m : Nat) (roads : List (Int × Int)) (pw : List Int), ds = [frD ((m : Int) + 1) roads, rowPw pw] ∧ m ≤ 10 ∧ pw.length = m ∧ roads.length ≤ 1000 ∧ Good ((m : Int) + 1) roads ∧
  ∀ v, KeptV roads pw m v → Q v
theorem foldl_snoc {α : Type} : ∀ (l s : List α), l.foldl (fun s x => s ++ [x]) s = s ++ l
  | [], s => (List.append_nil s).symm
  | x :: r, s => by rw [List.foldl_cons, foldl_snoc r, List.append_assoc]; rfl
theorem eqv_nili (l : List Int) : PyData.eqv (.list (l.map PyData.int)) (.list []) = l.isEmpty := by rw [eqv_nil]; cases l <;> rfl
theorem hw_kept (ds : List W2.D) (Q : W2.D → Prop) (_ : ds.length = 2) (h : wf_kept ds Q) : wb__law_lot_kept wf_lots wf_out { nx := fun _ => Q .none, rt := Q } (startE ["frame", "powers", "lot", "c"] (ds.map .fz)) := by
  obtain ⟨m, roads, pw, rfl, hm, hp, hl, hg, qq⟩ := h
  have q1 : (burnt roads pw m).length = m → Q .none := fun hf => qq _ (.inl ⟨rfl, hf⟩)
  have q2 : (burnt roads pw m).length ≠ m → ∀ l, Q (lotD l) := fun hf l => qq _ (.inr ⟨⟨l, rfl⟩, hf⟩)
  refine ⟨_, rfl, rfl, m, rfl, hm, ?_⟩
  show forGo _ _ _ ((lotsW m).map lotD) _
  refine for_fold lotD (fun (s : List (List Int)) η => (∀ l ∈ s, ¬ Kept roads pw l) ∧ ∃ a b, η = [.fz (frD ((m : Int) + 1) roads), .fz (rowPw pw), a, b]) (fun s x => s ++ [x]) (lotsW m) [] _ ⟨(fun _ h => by cases h), .un, .un, rfl⟩ (fun l hl' s η hI Kc hK => ?_) (fun η hI => ?_)
  · obtain ⟨hs, a, b, rfl⟩ := hI
    obtain ⟨l1, l2, l3⟩ := mem_lotsW hl'
    show lcGo _ _ _ _ (l.map PyData.int) [] _
    refine lc_fm PyData.int (fun c => if decide (pwr pw c < (wout roads c l : Nat)) = true then some (.int c) else none) l (fun c hc R hR => ?_) (le_line (by omega)) ?_
    · have hc' := mem_cr.mp (l3 c hc)
      refine ix_pw hc'.1 (by omega) ?_
      refine ⟨rfl, ((m : Int) + 1), roads, c, l, _, rfl, .inl rfl, hl, ?_⟩
      show (if decide (pwr pw c < (wout roads c l : Nat)) = true then R (some (.int c)) else R none)
      cases q2 : decide (pwr pw c < (wout roads c l : Nat)) with
      | false => rw [q2] at hR; exact hR
      | true => rw [q2] at hR; exact hR
    · rw [filterMap_some]
      refine ⟨Nat.zero_le _, eqOk_of (shaped_li _) rfl, ?_⟩
      rw [eqv_nili]
      show (if (l.filter fun c => decide (pwr pw c < (wout roads c l : Nat))).isEmpty = true then Q (lotD l) else Kc _)
      by_cases c : (l.filter fun c => decide (pwr pw c < (wout roads c l : Nat))) = []
      · rw [if_pos (by rw [c]; rfl)]
        refine q2 (fun hf => ?_) l
        refine (full_iff hg).mp hf l l3 ⟨l1, fun c' hc' z => ?_⟩
        rw [List.filter_eq_nil_iff] at c
        exact c c' hc' (decide_eq_true z)
      · rw [if_neg (by rw [List.isEmpty_iff]; exact c)]
        refine hK _ ⟨fun l' hl2 => ?_, _, _, rfl⟩
        rcases List.mem_append.mp hl2 with z | z
        · exact hs l' z
        · have : l' = l := by simpa using z
          subst this
          refine fun hk => c ?_
          rw [List.filter_eq_nil_iff]
          intro c' hc' z
          exact hk.2 c' hc' (of_decide_eq_true z)
  · rw [foldl_snoc, List.nil_append] at hI
    obtain ⟨hs, a, b, rfl⟩ := hI
    refine q1 (Classical.not_not.mp fun z => ?_)
    have hk := left_kept hg z
    exact hs _ (filter_lotsW hk.1) hk
end K25

set_option Elab.async false
set_option linter.all false
set_option maxRecDepth 100000
namespace K25
open PySem PySem.Spec PyProof.Rows L2 W2 PySem.W

/-! ### the fault of a paper -/
def inR (n : Int) : W2.D → Bool
  | .int i => decide (0 < i) && decide (i < n)
  | _ => false
def formD : W2.D := .tuple [.str "form"]
def at1 (l : List Int) (k : Int) : Int := l.getD k.toNat 0
def dn (l : List Int) : List Int := (cr (l.length - 1)).filter fun k => decide (at1 l k ≤ at1 l (k - 1))
section
variable (roads : List (Int × Int)) (pw : List Int) (m : Nat)
def burnAt : List Int → Nat → List Int → W2.D
  | _, _, [] => .none
  | s, k, c :: r => if Burns roads pw c s = true then burnAt (s ++ [c]) (k + 1) r else .tuple [.str "burns", .int (k : Nat)]
def wrong (l : List Int) : List Int := l.filter fun c => decide (pwr pw c < (wout roads c l : Nat))
def firstW : List Int → W2.D
  | [] => .none
  | x :: _ => .tuple [.str "lot", .int x]
def fltL (l : List Int) : W2.D := if l = [] then formD else if dn l = [] then firstW (wrong roads pw l) else formD
def fltB (l : List Int) : W2.D := if W2.sortI l = cr m then burnAt roads pw [0] 0 l else formD
def kindOf : W2.D → Nat
  | .str s => if s = "burns" then 1 else if s = "lot" then 2 else 0
  | _ => 0
def fltK (k : Nat) (l : List Int) : W2.D := if k = 1 then fltB roads pw m l else if k = 2 then fltL roads pw l else formD
def fltT (w : W2.D) (ds : List W2.D) : W2.D := if ds.all (inR ((m : Int) + 1)) = true then fltK roads pw m (kindOf w) ((intsOf ds).getD []) else formD
def flt1 (w t : W2.D) : W2.D := match t with
  | .tuple ds => fltT roads pw m w ds
  | _ => formD
def fltX : List W2.D → W2.D
  | [w, t] => flt1 roads pw m w t
  | _ => formD
def flt (v : W2.D) : W2.D := match v with
  | .tuple xs => fltX roads pw m xs
  | _ => formD
end
def GoodW (w : W2.D) : Prop := reprOk w = true ∧ Sh w ∧ (([PyData.str "'burns'", .str "'lot'"] : List W2.D).any fun z => PyData.eqv z (.str w.shown)) = decide (kindOf w ≠ 0) ∧ SeqAt.shaped (.str w.shown) = true
def GoodT (t : W2.D) : Prop := ∀ ds, t = .tuple ds → ds.length ≤ 100 ∧ ∀ x ∈ ds, Sh x
def GoodV (v : W2.D) : Prop := ∀ w t, v = .tuple [w, t] → GoodW w ∧ GoodT t
theorem ints_inR {n : Int} : ∀ {ds : List W2.D}, ds.all (inR n) = true → ∃ l : List Int, ds = l.map .int ∧ intsOf ds = some l ∧ ∀ x ∈ l, 0 < x ∧ x < n
  | [], _ => ⟨[], rfl, rfl, fun _ h => by cases h⟩
  | d :: r, h => by
    rw [List.all_cons, Bool.and_eq_true] at h
    obtain ⟨pw, e1, e2, e3⟩ := ints_inR h.2
    cases d with
    | int i =>
      refine ⟨i :: pw, by rw [List.map_cons, ← e1], ?_, fun x hx => ?_⟩
      · show (intsOf r).map _ = _
        rw [e2]; rfl
      · rcases List.mem_cons.mp hx with z | z
        · subst z
          have h1 : (decide (0 < x) && decide (x < n)) = true := h.1
          rw [Bool.and_eq_true, decide_eq_true_iff, decide_eq_true_iff] at h1
          exact h1
        · exact e3 x z
    | _ => cases h.1
theorem for_enum {g : WG} {body : WS} {W : WEnds} (e : Int × Nat → W2.D) (I : List Int → En → Prop) (P : List Int → List Int → Prop) {l : List Int}
    (h : ∀ pre c r η, pre ++ c :: r = l → I pre η → P pre (c :: r) → ∀ Kc : En → Prop, (∀ η', I (pre ++ [c]) η' → P (pre ++ [c]) r → Kc η') → g (e (c, pre.length)) η fun η1 => body { nx := Kc, rt := W.rt, bk := W.nx, ct := Kc } η1)
    (hend : ∀ η', I l η' → P l [] → W.nx η') : ∀ (r pre : List Int) (η : En), pre ++ r = l → I pre η → P pre r → forGo g body W ((r.zipIdx pre.length).map e) η
  | [], pre, η, hl, hi, hp => by
    rw [List.append_nil] at hl
    subst hl
    exact hend η hi hp
  | c :: r, pre, η, hl, hi, hp => by
    refine h pre c r η hl hi hp _ fun η' hi' hp' => ?_
    have := for_enum e I P h hend r (pre ++ [c]) η' (by rw [List.append_assoc]; exact hl) hi' hp'
    rw [List.length_append] at this
    exact this
theorem cutK (l : List Int) (k : Nat) : W2.cutD (l.map PyData.int) none (some (k : Int)) = (l.take k).map .int := by
  unfold W2.cutD
  rw [HT.sIx_none, HT.sIx_nat, List.length_map, List.drop_zero, List.map_take, Nat.sub_zero]
  by_cases h : k ≤ l.length
  · rw [Nat.min_eq_left h]
  · rw [Nat.min_eq_right (by omega), List.take_of_length_le (by rw [List.length_map]; omega), List.take_of_length_le (by rw [List.length_map]; omega)]
theorem ix_row {l : List Int} {k : Int} {P : W2.D → Prop} (h0 : 0 ≤ k) (h1 : k < l.length) (h : P (.int (at1 l k))) : gIxA (lotD l) (.int k) P := by
  have hi : k.toNat < l.length := by omega
  have e : L2.atI (l.map PyData.int) k = some (.int (at1 l k)) := by
    unfold L2.atI ixN
    rw [List.length_map, if_pos (by omega), if_pos (by omega)]
    show (l.map PyData.int)[k.toNat]? = _
    rw [List.getElem?_map, List.getElem?_eq_getElem hi]
    unfold at1
    rw [List.getD_eq_getElem?_getD, List.getElem?_eq_getElem hi]; rfl
  exact ⟨_, e, h⟩
theorem enum_ints (l : List Int) : (enumD (l.map PyData.int)).map PyData.tuple = (l.zipIdx 0).map fun p => PyData.tuple [.int (p.2 : Nat), .int p.1] := by
  unfold enumD
  rw [List.zipIdx_map, List.map_map, List.map_map]
  rfl
theorem sh2 : SeqAt.shaped (.tuple [.str "'burns'", .str "'lot'"]) = true := by decide +kernel
theorem form1 {Q : W2.D → Prop} (q : Q formD) : 1 ≤ sizeLine ∧ Q (.tuple [.str "form"]) := ⟨(show 1 ≤ sizeLine by decide), q⟩
theorem kind_str {w : W2.D} (h : kindOf w ≠ 0) : (w = .str "burns" ∧ kindOf w = 1) ∨ (w = .str "lot" ∧ kindOf w = 2) := by
  cases w with
  | str s =>
    unfold kindOf at h ⊢
    by_cases c : s = "burns"
    · subst c; exact .inl ⟨rfl, rfl⟩
    · by_cases c2 : s = "lot"
      · subst c2; exact .inr ⟨rfl, rfl⟩
      · exact absurd (by show (if s = "burns" then 1 else if s = "lot" then 2 else 0) = 0; rw [if_neg c, if_neg c2]) h
  | _ => exact absurd rfl h
def wf_fault : WF := fun ds Q => ∃ (m : Nat) (roads : List (Int × Int)) (pw : List Int) (v : W2.D), ds = [frD ((m : Int) + 1) roads, rowPw pw, v] ∧ m ≤ 10 ∧ pw.length = m ∧ roads.length ≤ 1000 ∧ Good ((m : Int) + 1) roads ∧ GoodV v ∧ Q (flt roads pw m v)
theorem len3 {a b c : W2.D} {r : List W2.D} : (!(((a :: b :: c :: r).length : Int) == 2)) = true := by
  rw [Bool.not_eq_true', beq_eq_false_iff_ne, List.length_cons, List.length_cons, List.length_cons]
  omega
def rg (n : Nat) : List Int := (List.range n).map fun i : Nat => (i : Int)
theorem mem_rg {n : Nat} {x : Int} : x ∈ rg n ↔ 0 ≤ x ∧ x < n := by
  unfold rg
  rw [List.mem_map]
  constructor
  · rintro ⟨i, hi, rfl⟩
    have := List.mem_range.mp hi
    omega
  · rintro ⟨h1, h2⟩
    exact ⟨x.toNat, List.mem_range.mpr (by omega), by omega⟩
theorem rg_len (n : Nat) : (rg n).length = n := by unfold rg; rw [List.length_map, List.length_range]
theorem rng_rg (m : Nat) : rangeD 0 ((m : Int) + 1).toNat = (rg (m + 1)).map PyData.int := by
  have e : ((m : Int) + 1).toNat = m + 1 := by omega
  rw [e, rangeD0]
  unfold rg
  rw [List.map_map]
  rfl
theorem rng_len {l : List Int} (h : 0 < l.length) : rangeD 1 (((l.map PyData.int).length : Int) - 1).toNat = (cr (l.length - 1)).map PyData.int := by
  have e : (((l.map PyData.int).length : Int) - 1).toNat = l.length - 1 := by rw [List.length_map]; omega
  rw [e]
  unfold rangeD cr
  rw [List.map_map]
  rfl
/-- the last line of both -/
theorem wrong_end {roads : List (Int × Int)} {pw l : List Int} {Q : W2.D → Prop} (q : Q (firstW (wrong roads pw l))) :
    (0 ≤ sizeLine) ∧ eqOk (liD (wrong roads pw l)) (.list []) = true ∧ (if (!PyData.eqv (liD (wrong roads pw l)) (.list [])) = true then gIxA (liD (wrong roads pw l)) (.int 0) (fun z => 2 ≤ sizeLine ∧ Q (.tuple [.str "lot", z])) else Q .none) := by
  refine ⟨Nat.zero_le _, eqOk_of (shaped_li _) rfl, ?_⟩
  generalize wrong roads pw l = u at q ⊢
  cases u with
  | nil => exact q
  | cons x r =>
    have e : L2.atI ((x :: r).map PyData.int) 0 = some (.int x) := by
      unfold L2.atI ixN
      rw [List.length_map, if_pos (by omega), if_pos (by rw [List.length_cons]; omega)]
      rfl
    exact ⟨_, e, (show 2 ≤ sizeLine by decide), q⟩
set_option maxHeartbeats 4000000 in
theorem hw_fault (ds : List W2.D) (Q : W2.D → Prop) (_ : ds.length = 3) (h : wf_fault ds Q) : wb__law_fault wf_isI wf_out { nx := fun _ => Q .none, rt := Q } (startE ["frame", "powers", "value", "n", "told", "k", "crossing", "rest", "wrong", "c"] (ds.map .fz)) := by
  obtain ⟨m, roads, pw, v, rfl, hm, hp, hl, hg, hv, q⟩ := h
  refine ⟨_, rfl, ?_⟩
  cases v with
  | tuple xs =>
    match xs, hv, q with
    | [], _, q => exact ⟨true, rfl, eqOk_of rfl rfl, form1 q⟩
    | [a], _, q => exact ⟨true, rfl, eqOk_of rfl rfl, form1 q⟩
    | a :: b :: c :: r, _, q =>
      refine ⟨true, rfl, eqOk_of rfl rfl, ?_⟩
      show (if (!(((a :: b :: c :: r).length : Int) == 2)) = true then _ else _)
      rw [if_pos len3]
      exact form1 q
    | [w, t], hv, q =>
      obtain ⟨⟨w1, w2, w3, w4⟩, ht⟩ := hv w t rfl
      refine ⟨true, rfl, eqOk_of rfl rfl, ?_⟩
      refine ⟨w, rfl, w1, (show 2 ≤ sizeLine by decide), w4, sh2, ?_⟩
      rw [w3]
      show (if (!decide (kindOf w ≠ 0)) = true then _ else _)
      have q' : Q (flt1 roads pw m w t) := q
      by_cases hk : kindOf w = 0
      · rw [if_pos (by simp [hk])]
        refine form1 ?_
        have e : flt1 roads pw m w t = formD := by
          cases t <;> first | rfl | skip
          show fltT roads pw m w _ = formD
          unfold fltT fltK
          rw [hk]
          split <;> rfl
        rw [e] at q'
        exact q'
      · rw [if_neg (by simp [hk])]
        refine ⟨t, rfl, ?_⟩
        cases t with
        | tuple ds =>
          obtain ⟨d1, d2⟩ := ht ds rfl
          refine ⟨true, rfl, ?_⟩
          show lcGo _ _ _ _ ds [] _
          refine lc_id (fun d => if (!inR ((m : Int) + 1) d) = true then some ((fun d => d) d) else none) ds (fun d hd R hR => ?_) (le_line (by omega)) ?_
          · refine ⟨rfl, d, rfl, isI d, rfl, ?_⟩
            cases d with
            | int i =>
              have hR' : R (if (!(decide (0 < i) && decide (i < (m : Int) + 1))) = true then some (.int i) else none) := hR
              show (match PyData.bool (decide (0 < i)) with | .bool true => (if (!decide (i < (m : Int) + 1)) = true then R (some (.int i)) else R none) | .bool false => (if (!false) = true then R (some (.int i)) else R none) | _ => False)
              cases c1 : decide (0 < i) with
              | false => rw [c1] at hR'; exact hR'
              | true =>
                rw [c1, Bool.true_and] at hR'
                cases c2 : decide (i < (m : Int) + 1) with
                | false => rw [c2] at hR'; exact hR'
                | true => rw [c2] at hR'; exact hR'
            | _ => exact hR
          · rw [filterMap_some, List.map_id']
            refine ⟨Nat.zero_le _, eqOk_of (shaped_list fun d hd => d2 d (List.mem_filter.mp hd).1) rfl, ?_⟩
            rw [eqv_nil]
            have e : (ds.filter fun d => !inR ((m : Int) + 1) d).isEmpty = ds.all (inR ((m : Int) + 1)) := by
              rw [Bool.eq_iff_iff, List.isEmpty_iff, List.filter_eq_nil_iff, List.all_eq_true]
              constructor
              · intro h x hx; have := h x hx; simpa using this
              · intro h x hx; have := h x hx; simp [this]
            rw [e]
            show (if (!ds.all (inR ((m : Int) + 1))) = true then _ else _)
            cases c : ds.all (inR ((m : Int) + 1)) with
            | false =>
              rw [if_pos (by decide)]
              refine form1 ?_
              have e5 : flt1 roads pw m w (.tuple ds) = formD := by
                show fltT roads pw m w ds = formD
                unfold fltT
                rw [c]; rfl
              rw [e5] at q'
              exact q'
            | true =>
              rw [if_neg (by decide)]
              obtain ⟨l, rfl, e2, e3⟩ := ints_inR c
              have e4 : flt1 roads pw m w (.tuple (l.map .int)) = fltK roads pw m (kindOf w) l := by
                show fltT roads pw m w (l.map .int) = _
                unfold fltT
                rw [if_pos c, e2]; rfl
              rw [e4] at q'
              rw [List.length_map] at d1
              rcases kind_str hk with ⟨rfl, hk1⟩ | ⟨rfl, hk2⟩
              · rw [hk1] at q'
                have q2 : Q (fltB roads pw m l) := q'
                refine ⟨.str "burns", rfl, rfl, ?_⟩
                refine ⟨lay_ints l, sortOk_int l, ?_⟩
                rw [sortD_int]
                refine ⟨⟨by omega, by omega, by omega, by omega, by omega⟩, ?_⟩
                rw [rng_cr]
                refine ⟨eqOk_of (shaped_li _) (shaped_li _), ?_⟩
                show (if (!PyData.eqvAll ((W2.sortI l).map .int) ((cr m).map .int)) = true then _ else _)
                rw [eqvAll_ints]
                by_cases c : W2.sortI l = cr m
                · rw [if_neg (by simp [c])]
                  have q3 : Q (burnAt roads pw [0] 0 l) := by unfold fltB at q2; rw [if_pos c] at q2; exact q2
                  have hln : l.Nodup := (W2.sortI_perm l).nodup_iff.mp (by rw [c]; exact (cr_ss m).nodup)
                  show forGo _ _ _ ((enumD (l.map .int)).map PyData.tuple) _
                  rw [enum_ints]
                  refine for_enum (l := l) (fun p => PyData.tuple [.int (p.2 : Nat), .int p.1]) (fun pre η => ∃ a b c d e, η = [.fz (frD ((m : Int) + 1) roads), .fz (rowPw pw), .fz (burnsD l), .fz (.int ((m : Int) + 1)), .fz (lotD l), a, b, c, d, e]) (fun pre r => Q (burnAt roads pw (0 :: pre) pre.length r)) (fun pre c r η hpre hI hP Kc hK => ?_) (fun η hI hP => ?_) l [] _ rfl ⟨.un, .un, .un, .un, .un, rfl⟩ q3
                  · obtain ⟨a, b, c', d, e, rfl⟩ := hI
                    have hcl : c ∈ l := by rw [← hpre]; exact List.mem_append.mpr (.inr List.mem_cons_self)
                    have hc := e3 c hcl
                    have htk : l.take pre.length = pre := by rw [← hpre]; exact List.take_left
                    have hnp : c ∉ pre := fun z => by
                      rw [← hpre] at hln
                      exact (List.nodup_append.mp hln).2.2 c z c List.mem_cons_self rfl
                    refine ⟨rfl, ⟨by omega, by omega⟩, ?_⟩
                    show lcGo _ _ _ _ (rangeD 0 ((m : Int) + 1).toNat) [] _
                    rw [rng_rg]
                    refine lc_fm PyData.int (fun x => if (!(x == 0) && !decide (x ∈ pre)) = true then some (.int x) else none) (rg (m + 1)) (fun x hx R hR => ?_) (le_line (by rw [rg_len]; omega)) ?_
                    · refine ⟨eqOk_of rfl rfl, ?_⟩
                      show (if (!(x == 0)) = true then _ else R none)
                      cases c1 : (!(x == 0)) with
                      | false => rw [c1] at hR; exact hR
                      | true =>
                        rw [c1, Bool.true_and] at hR
                        rw [if_pos rfl]
                        show SeqAt.shaped (.int x) = true ∧ SeqAt.shaped (.tuple (W2.cutD (l.map PyData.int) none (some (pre.length : Int)))) = true ∧ (if (!(W2.cutD (l.map PyData.int) none (some (pre.length : Int))).any (fun z => PyData.eqv z (.int x))) = true then R (some (.int x)) else R none)
                        rw [cutK, htk]
                        refine ⟨rfl, shaped_lot _, ?_⟩
                        rw [any_int]
                        cases c2 : (!decide (x ∈ pre)) with
                        | false => rw [c2] at hR; exact hR
                        | true => rw [c2] at hR; exact hR
                    · rw [filterMap_some]
                      have eo : wout roads c ((rg (m + 1)).filter fun x => !(x == 0) && !decide (x ∈ pre)) = rto roads c (0 :: pre) := out_to hg (by
                        rw [List.mem_filter, mem_rg]
                        refine ⟨⟨by omega, by omega⟩, ?_⟩
                        rw [decide_eq_false hnp, beq_eq_false_iff_ne.mpr (by omega)]; rfl) fun x x0 x1 _ => by
                        rw [List.mem_filter, mem_rg, List.mem_cons, not_or, Bool.and_eq_true, Bool.not_eq_true', Bool.not_eq_true', beq_eq_false_iff_ne, decide_eq_false_iff_not]
                        exact ⟨fun z => z.2, fun z => ⟨⟨x0, by omega⟩, z⟩⟩
                      refine ix_pw hc.1 (by omega) ?_
                      refine ⟨rfl, ((m : Int) + 1), roads, c, _, _, rfl, .inr rfl, hl, ?_⟩
                      rw [eo]
                      show (if decide (((rto roads c (0 :: pre) : Nat) : Int) ≤ pwr pw c) = true then _ else Kc _)
                      have hP' : Q (if Burns roads pw c (0 :: pre) = true then burnAt roads pw (0 :: pre ++ [c]) (pre.length + 1) r else .tuple [.str "burns", .int (pre.length : Nat)]) := hP
                      unfold Burns at hP'
                      by_cases cb : pwr pw c < (rto roads c (0 :: pre) : Nat)
                      · rw [if_neg (by simp; omega)]
                        rw [if_pos (decide_eq_true cb)] at hP'
                        exact hK _ ⟨_, _, _, _, _, rfl⟩ (by rw [List.length_append]; exact hP')
                      · rw [if_pos (decide_eq_true (by omega))]
                        rw [if_neg (by simp; omega)] at hP'
                        exact ⟨(show 2 ≤ sizeLine by decide), hP'⟩
                  · obtain ⟨a, b, c', d, e, rfl⟩ := hI
                    exact hP
                · rw [if_pos (by simp [c])]
                  refine form1 ?_
                  unfold fltB at q2
                  rw [if_neg c] at q2
                  exact q2
              · rw [hk2] at q'
                have q2 : Q (fltL roads pw l) := q'
                refine ⟨.str "lot", rfl, rfl, ?_⟩
                refine ⟨Nat.zero_le _, eqOk_of (shaped_lot l) rfl, ?_⟩
                have en : PyData.eqv (lotD l) (.tuple []) = decide (l = []) := by cases l <;> rfl
                show (if PyData.eqv (lotD l) (.tuple []) = true then _ else _)
                rw [en]
                by_cases c0 : l = []
                · rw [if_pos (decide_eq_true c0)]
                  refine form1 ?_
                  unfold fltL at q2
                  rw [if_pos c0] at q2
                  exact q2
                · rw [if_neg (by simp [c0])]
                  unfold fltL at q2
                  rw [if_neg c0] at q2
                  have hpos : 0 < l.length := List.length_pos_iff.mpr c0
                  refine ⟨⟨by omega, by omega, by rw [List.length_map]; omega, by rw [List.length_map]; omega⟩, ?_⟩
                  show lcGo _ _ _ _ (rangeD 1 (((l.map PyData.int).length : Int) - 1).toNat) [] _
                  rw [rng_len hpos]
                  refine lc_fm PyData.int (fun k => if decide (at1 l k ≤ at1 l (k - 1)) = true then some (.int k) else none) (cr (l.length - 1)) (fun k hk R hR => ?_) (le_line (by rw [cr_len]; omega)) ?_
                  · have hk' := mem_cr.mp hk
                    refine ix_row (by omega) (by omega) ?_
                    refine ix_row (by omega) (by omega) ?_
                    show (if decide (at1 l k ≤ at1 l (k - 1)) = true then R (some (.int k)) else R none)
                    cases c1 : decide (at1 l k ≤ at1 l (k - 1)) with
                    | false => rw [c1] at hR; exact hR
                    | true => rw [c1] at hR; exact hR
                  · rw [filterMap_some]
                    refine ⟨Nat.zero_le _, eqOk_of (shaped_li _) rfl, ?_⟩
                    rw [eqv_nili]
                    show (if (!(dn l).isEmpty) = true then _ else _)
                    by_cases c1 : dn l = []
                    · rw [if_pos c1] at q2
                      rw [if_neg (by simp [c1])]
                      show lcGo _ _ _ _ (l.map PyData.int) [] _
                      refine lc_fm PyData.int (fun c => if decide (pwr pw c < (wout roads c l : Nat)) = true then some (.int c) else none) l (fun c hc R hR => ?_) (le_line (by omega)) ?_
                      · have hc' := e3 c hc
                        refine ix_pw hc'.1 (by omega) ?_
                        refine ⟨rfl, ((m : Int) + 1), roads, c, l, _, rfl, .inl rfl, hl, ?_⟩
                        show (if decide (pwr pw c < (wout roads c l : Nat)) = true then R (some (.int c)) else R none)
                        cases q2 : decide (pwr pw c < (wout roads c l : Nat)) with
                        | false => rw [q2] at hR; exact hR
                        | true => rw [q2] at hR; exact hR
                      · rw [filterMap_some]
                        exact wrong_end q2
                    · rw [if_neg c1] at q2
                      rw [if_pos (by simp [c1])]
                      exact form1 q2
        | _ => exact ⟨false, rfl, form1 q'⟩
  | _ => exact ⟨false, rfl, form1 q⟩
end K25

set_option Elab.async false
set_option linter.all false
set_option maxRecDepth 100000
namespace K25
open PySem PySem.Spec PyProof.Rows L2 W2 PySem.W

theorem flt_str {roads : List (Int × Int)} {pw : List Int} {m : Nat} {w t : W2.D} (h : kindOf w = 0) : flt1 roads pw m w t = formD := by
  cases t <;> first | rfl | skip
  show fltT roads pw m w _ = formD
  unfold fltT fltK
  rw [h]
  split <;> rfl
set_option maxHeartbeats 4000000 in
theorem hw_judge (ds : List W2.D) (Q : W2.D → Prop) (_ : ds.length = 3) (h : wf_fault ds Q) : wb_judge_burn wf_isI wf_to { nx := fun _ => Q .none, rt := Q } (startE ["frame", "powers", "value", "n", "told", "k", "crossing", "rest", "wrong", "one"] (ds.map .fz)) := by
  obtain ⟨m, roads, pw, v, rfl, hm, hp, hl, hg, hv, q⟩ := h
  refine ⟨_, rfl, ?_⟩
  cases v with
  | tuple xs =>
    match xs, hv, q with
    | [], _, q => exact ⟨true, rfl, eqOk_of rfl rfl, form1 q⟩
    | [a], _, q => exact ⟨true, rfl, eqOk_of rfl rfl, form1 q⟩
    | a :: b :: c :: r, _, q =>
      refine ⟨true, rfl, eqOk_of rfl rfl, ?_⟩
      show (if (!(((a :: b :: c :: r).length : Int) == 2)) = true then _ else _)
      rw [if_pos len3]
      exact form1 q
    | [w, t], hv, q =>
      obtain ⟨⟨w1, w2, w3, w4⟩, ht⟩ := hv w t rfl
      have q' : Q (flt1 roads pw m w t) := q
      refine ⟨true, rfl, eqOk_of rfl rfl, ?_⟩
      refine ⟨w, rfl, isiT w "str", rfl, ?_⟩
      cases w with
      | str s =>
        refine ⟨t, rfl, ?_⟩
        cases t with
        | tuple ds =>
          obtain ⟨d1, d2⟩ := ht ds rfl
          refine ⟨true, rfl, ?_⟩
          show lcGo _ _ _ _ ds [] _
          refine lc_id (fun d => some (PyData.bool (inR ((m : Int) + 1) d))) ds (fun d hd R hR => ?_) (le_line (by omega)) ?_
          · refine ⟨rfl, d, rfl, ?_⟩
            cases d with
            | int i =>
              have hR' : R (some (.bool (decide (0 < i) && decide (i < (m : Int) + 1)))) := hR
              show (match PyData.bool (decide (0 < i)) with | .bool true => R (some (.bool (decide (i < (m : Int) + 1)))) | .bool false => R (some (.bool false)) | _ => False)
              cases c1 : decide (0 < i) with
              | false => rw [c1] at hR'; exact hR'
              | true => rw [c1] at hR'; exact hR'
            | _ => exact hR
          · have e : (ds.filterMap fun d => some (PyData.bool (inR ((m : Int) + 1) d))) = ds.map fun d => PyData.bool (inR ((m : Int) + 1) d) := congrFun List.filterMap_eq_map _
            rw [e]
            refine ⟨_, bools_map (inR ((m : Int) + 1)) ds, _, rfl, ?_⟩
            rw [List.all_map]
            show (if (!ds.all (inR ((m : Int) + 1))) = true then _ else _)
            cases c : ds.all (inR ((m : Int) + 1)) with
            | false =>
              rw [if_pos (by decide)]
              refine form1 ?_
              have e5 : flt1 roads pw m (.str s) (.tuple ds) = formD := by
                show fltT roads pw m (.str s) ds = formD
                unfold fltT
                rw [c]; rfl
              rw [e5] at q'
              exact q'
            | true =>
              rw [if_neg (by decide)]
              obtain ⟨l, rfl, e2, e3⟩ := ints_inR c
              have e4 : flt1 roads pw m (.str s) (.tuple (l.map .int)) = fltK roads pw m (kindOf (.str s)) l := by
                show fltT roads pw m (.str s) (l.map .int) = _
                unfold fltT
                rw [if_pos c, e2]; rfl
              rw [e4] at q'
              rw [List.length_map] at d1
              refine ⟨.str s, rfl, rfl, ?_⟩
              show (if (s == "burns") = true then _ else _)
              have low : ∀ (η5 η6 η7 η8 η9 : W2.Slot), (s ≠ "lot" → Q formD) → (s = "lot" → Q (fltL roads pw l)) →
                  (wSeq (wIf (wOrT (wTrB (W2.w2 gNe (W2.w2 gIxA (wB 2) (wC (.int 0))) (wC (.str "lot")))) (wOrT (wTrB (W2.w2 gEq (wB 4) (wTup (wNil)))) (wTrB (W2.w2 gNe (wLc (wRng2 (wC (.int 1)) (wCall gLen (wCons (wB 4) (wNil)))) (wGn 5) (wTrB (W2.w2 gLeI (W2.w2 gIxA (wB 4) (wN 5)) (W2.w2 gIxA (wB 4) (W2.w2 gSubI (wB 5) (wC (.int 1)))))) (wN 5) [5]) (wLst (wNil)))))) (wRet (wTup (wCons (wC (.str "form")) (wNil)))) (wNext)) (wSeq (wAsg (wLc (wRng1 (wB 3)) (wGn 6) (wTrB (W2.w2 (gInA true) (wN 6) (wB 4))) (wN 6) [6]) (wGn 7)) (wSeq (wAsg (wLc (wItems (wN 4)) (wGn 6) (wTrB (W2.w2 gLtI (W2.w2 gIxA (wB 1) (W2.w2 gSubI (wB 6) (wC (.int 1)))) (wFn 3 wf_to (wCons (wN 0) (wCons (wN 6) (wCons (wN 7) (wNil))))))) (wN 6) [6]) (wGn 8)) (wRet (wIfE (wTrB (W2.w2 gNe (wB 8) (wLst (wNil)))) (wTup (wCons (wC (.str "lot")) (wCons (W2.w2 gIxA (wB 8) (wC (.int 0))) (wNil)))) (wC .none))))))
                  { nx := fun _ => Q .none, rt := Q } [.fz (frD ((m : Int) + 1) roads), .fz (rowPw pw), .fz (.tuple [.str s, lotD l]), .fz (.int ((m : Int) + 1)), .fz (lotD l), η5, η6, η7, η8, η9] := by
                intro η5 η6 η7 η8 η9 qf ql
                refine ⟨.str s, rfl, rfl, ?_⟩
                show (if (!(s == "lot")) = true then _ else _)
                by_cases cs : s = "lot"
                · have q2 := ql cs
                  rw [if_neg (by simp [cs])]
                  refine ⟨Nat.zero_le _, eqOk_of (shaped_lot l) rfl, ?_⟩
                  have en : PyData.eqv (lotD l) (.tuple []) = decide (l = []) := by cases l <;> rfl
                  show (if PyData.eqv (lotD l) (.tuple []) = true then _ else _)
                  rw [en]
                  by_cases c0 : l = []
                  · rw [if_pos (decide_eq_true c0)]
                    refine form1 ?_
                    unfold fltL at q2
                    rw [if_pos c0] at q2
                    exact q2
                  · rw [if_neg (by simp [c0])]
                    unfold fltL at q2
                    rw [if_neg c0] at q2
                    have hpos : 0 < l.length := List.length_pos_iff.mpr c0
                    refine ⟨⟨by omega, by omega, by rw [List.length_map]; omega, by rw [List.length_map]; omega⟩, ?_⟩
                    show lcGo _ _ _ _ (rangeD 1 (((l.map PyData.int).length : Int) - 1).toNat) [] _
                    rw [rng_len hpos]
                    refine lc_fm PyData.int (fun k => if decide (at1 l k ≤ at1 l (k - 1)) = true then some (.int k) else none) (cr (l.length - 1)) (fun k hk R hR => ?_) (le_line (by rw [cr_len]; omega)) ?_
                    · have hk' := mem_cr.mp hk
                      refine ix_row (by omega) (by omega) ?_
                      refine ix_row (by omega) (by omega) ?_
                      show (if decide (at1 l k ≤ at1 l (k - 1)) = true then R (some (.int k)) else R none)
                      cases c1 : decide (at1 l k ≤ at1 l (k - 1)) with
                      | false => rw [c1] at hR; exact hR
                      | true => rw [c1] at hR; exact hR
                    · rw [filterMap_some]
                      refine ⟨Nat.zero_le _, eqOk_of (shaped_li _) rfl, ?_⟩
                      rw [eqv_nili]
                      show (if (!(dn l).isEmpty) = true then _ else _)
                      by_cases c1 : dn l = []
                      · rw [if_pos c1] at q2
                        rw [if_neg (by simp [c1])]
                        refine ⟨⟨by omega, by omega⟩, ?_⟩
                        show lcGo _ _ _ _ (rangeD 0 ((m : Int) + 1).toNat) [] _
                        rw [rng_rg]
                        refine lc_fm PyData.int (fun x => if (!decide (x ∈ l)) = true then some (.int x) else none) (rg (m + 1)) (fun x hx R hR => ?_) (le_line (by rw [rg_len]; omega)) ?_
                        · refine ⟨rfl, shaped_lot l, ?_⟩
                          rw [any_int]
                          show (if (!decide (x ∈ l)) = true then R (some (.int x)) else R none)
                          cases c2 : (!decide (x ∈ l)) with
                          | false => rw [c2] at hR; exact hR
                          | true => rw [c2] at hR; exact hR
                        · rw [filterMap_some]
                          show lcGo _ _ _ _ (l.map PyData.int) [] _
                          refine lc_fm PyData.int (fun c => if decide (pwr pw c < (wout roads c l : Nat)) = true then some (.int c) else none) l (fun c hc R hR => ?_) (le_line (by omega)) ?_
                          · have hc' := e3 c hc
                            refine ix_pw hc'.1 (by omega) ?_
                            refine ⟨rfl, ((m : Int) + 1), roads, c, (rg (m + 1)).filter (fun x => !decide (x ∈ l)), _, rfl, .inr rfl, hl, ?_⟩
                            have eo : wout roads c l = rto roads c ((rg (m + 1)).filter fun x => !decide (x ∈ l)) := out_to hg hc fun x x0 x1 _ => by
                              rw [List.mem_filter, mem_rg, Bool.not_eq_true', decide_eq_false_iff_not]
                              exact ⟨fun z y => y.2 z, fun z => Classical.not_not.mp fun y => z ⟨⟨x0, by omega⟩, y⟩⟩
                            rw [← eo]
                            show (if decide (pwr pw c < (wout roads c l : Nat)) = true then R (some (.int c)) else R none)
                            cases q2 : decide (pwr pw c < (wout roads c l : Nat)) with
                            | false => rw [q2] at hR; exact hR
                            | true => rw [q2] at hR; exact hR
                          · rw [filterMap_some]
                            exact wrong_end q2
                      · rw [if_neg c1] at q2
                        rw [if_pos (by simp [c1])]
                        exact form1 q2
                · rw [if_pos (by simp [cs])]
                  exact form1 (qf cs)
              by_cases cb : s = "burns"
              · subst cb
                rw [if_pos (beq_self_eq_true _)]
                have q2 : Q (fltB roads pw m l) := q'
                refine ⟨lay_ints l, sortOk_int l, ?_⟩
                rw [sortD_int]
                refine ⟨⟨by omega, by omega, by omega, by omega, by omega⟩, ?_⟩
                rw [rng_cr]
                refine ⟨eqOk_of (shaped_li _) (shaped_li _), ?_⟩
                show (if PyData.eqvAll ((W2.sortI l).map .int) ((cr m).map .int) = true then _ else _)
                rw [eqvAll_ints]
                by_cases c : W2.sortI l = cr m
                · rw [if_pos (decide_eq_true c)]
                  have q3 : Q (burnAt roads pw [0] 0 l) := by unfold fltB at q2; rw [if_pos c] at q2; exact q2
                  show forGo _ _ _ ((enumD (l.map .int)).map PyData.tuple) _
                  rw [enum_ints]
                  refine for_enum (l := l) (fun p => PyData.tuple [.int (p.2 : Nat), .int p.1]) (fun pre η => ∃ a b c d e, η = [.fz (frD ((m : Int) + 1) roads), .fz (rowPw pw), .fz (burnsD l), .fz (.int ((m : Int) + 1)), .fz (lotD l), a, b, c, d, e]) (fun pre r => Q (burnAt roads pw (0 :: pre) pre.length r)) (fun pre c r η hpre hI hP Kc hK => ?_) (fun η hI hP => ?_) l [] _ rfl ⟨.un, .un, .un, .un, .un, rfl⟩ q3
                  · obtain ⟨a, b, c', d, e, rfl⟩ := hI
                    have hcl : c ∈ l := by rw [← hpre]; exact List.mem_append.mpr (.inr List.mem_cons_self)
                    have hc := e3 c hcl
                    have htk : l.take pre.length = pre := by rw [← hpre]; exact List.take_left
                    have hpl : pre.length ≤ l.length := by rw [← hpre, List.length_append]; omega
                    refine ⟨rfl, ?_⟩
                    refine ix_pw hc.1 (by omega) ?_
                    have eb : W2.cutD (l.map PyData.int) none (some (pre.length : Int)) ++ [] = pre.map PyData.int := by rw [cutK, htk, List.append_nil]
                    show (PyData.int 0 :: (W2.cutD (l.map PyData.int) none (some (pre.length : Int)) ++ [])).length ≤ sizeLine ∧ _
                    rw [eb]
                    refine ⟨by rw [List.length_cons, List.length_map, sizeLine_eq]; omega, rfl, ((m : Int) + 1), roads, c, 0 :: pre, _, rfl, .inl rfl, hl, ?_⟩
                    show (if decide (((rto roads c (0 :: pre) : Nat) : Int) ≤ pwr pw c) = true then _ else Kc _)
                    have hP' : Q (if Burns roads pw c (0 :: pre) = true then burnAt roads pw (0 :: pre ++ [c]) (pre.length + 1) r else .tuple [.str "burns", .int (pre.length : Nat)]) := hP
                    unfold Burns at hP'
                    by_cases cb : pwr pw c < (rto roads c (0 :: pre) : Nat)
                    · rw [if_neg (by simp; omega)]
                      rw [if_pos (decide_eq_true cb)] at hP'
                      exact hK _ ⟨_, _, _, _, _, rfl⟩ (by rw [List.length_append]; exact hP')
                    · rw [if_pos (decide_eq_true (by omega))]
                      rw [if_neg (by simp; omega)] at hP'
                      exact ⟨(show 2 ≤ sizeLine by decide), hP'⟩
                  · obtain ⟨a, b, c', d, e, rfl⟩ := hI
                    exact hP
                · rw [if_neg (by simp [c])]
                  unfold fltB at q2
                  rw [if_neg c] at q2
                  exact low _ _ _ _ _ (fun _ => q2) (fun z => absurd z (by decide))
              · rw [if_neg (by simp [cb])]
                have hk : kindOf (.str s) = if s = "lot" then 2 else 0 := by
                  show (if s = "burns" then 1 else if s = "lot" then 2 else 0) = _
                  rw [if_neg cb]
                refine low _ _ _ _ _ (fun z => ?_) (fun z => ?_)
                · rw [hk, if_neg z] at q'; exact q'
                · rw [hk, if_pos z] at q'; exact q'
        | _ => exact ⟨false, rfl, form1 q'⟩
      | _ =>
        refine form1 ?_
        rw [flt_str rfl] at q'
        exact q'
  | _ => exact ⟨false, rfl, form1 q⟩
end K25

set_option Elab.async false
set_option linter.all false
set_option maxRecDepth 100000
namespace K25
open PySem PySem.Spec PyProof.Rows L2 W2 PySem.W

section
variable {roads : List (Int × Int)} {pw : List Int} {m : Nat}
theorem burn_none : ∀ {l s : List Int} {k : Nat}, Ordl roads pw s l → burnAt roads pw s k l = .none
  | [], _, _, _ => rfl
  | c :: r, s, k, h => by
    unfold burnAt
    rw [if_pos h.2.1]
    exact burn_none h.2.2
theorem ord_of_none : ∀ {l s : List Int} {k : Nat}, burnAt roads pw s k l = .none → l.Nodup → (∀ x ∈ l, x ∉ s) → Ordl roads pw s l
  | [], _, _, _, _, _ => trivial
  | c :: r, s, k, h, hn, hs => by
    unfold burnAt at h
    have hn' := List.nodup_cons.mp hn
    by_cases b : Burns roads pw c s = true
    · rw [if_pos b] at h
      refine ⟨hs c List.mem_cons_self, b, ord_of_none h hn'.2 fun x hx z => ?_⟩
      rcases List.mem_append.mp z with y | y
      · exact hs x (List.mem_cons_of_mem _ hx) y
      · have : x = c := by simpa using y
        subst this; exact hn'.1 hx
    · rw [if_neg b] at h
      cases h
theorem all_inR : ∀ {l : List Int}, (∀ x ∈ l, x ∈ cr m) → ((l.map PyData.int).all (inR ((m : Int) + 1))) = true ∧ intsOf (l.map PyData.int) = some l
  | [], _ => ⟨rfl, rfl⟩
  | x :: r, h => by
    obtain ⟨a, b⟩ := all_inR (l := r) fun y hy => h y (List.mem_cons_of_mem _ hy)
    have hx := mem_cr.mp (h x List.mem_cons_self)
    refine ⟨?_, ?_⟩
    · rw [List.map_cons, List.all_cons, a]
      show ((decide (0 < x) && decide (x < (m : Int) + 1)) && true) = true
      rw [decide_eq_true hx.1, decide_eq_true hx.2]; rfl
    · rw [List.map_cons]
      show (intsOf (r.map PyData.int)).map _ = _
      rw [b]; rfl
theorem flt_lot {w : W2.D} {l : List Int} (h : ∀ x ∈ l, x ∈ cr m) : flt roads pw m (.tuple [w, lotD l]) = fltK roads pw m (kindOf w) l := by
  obtain ⟨a, b⟩ := all_inR h
  show fltT roads pw m w (l.map .int) = _
  unfold fltT
  rw [if_pos a, b]; rfl
theorem dn_ss {l : List Int} (h : SS l) : dn l = [] := by
  unfold dn
  rw [List.filter_eq_nil_iff]
  intro k hk
  have hk' := mem_cr.mp hk
  have h1 : k.toNat < l.length := by omega
  have h2 : (k - 1).toNat < l.length := by omega
  have e1 : at1 l k = l[k.toNat] := by unfold at1; rw [List.getD_eq_getElem?_getD, List.getElem?_eq_getElem h1]; rfl
  have e2 : at1 l (k - 1) = l[(k - 1).toNat] := by unfold at1; rw [List.getD_eq_getElem?_getD, List.getElem?_eq_getElem h2]; rfl
  have := List.pairwise_iff_getElem.mp h (k - 1).toNat k.toNat h2 h1 (by omega)
  rw [e1, e2, decide_eq_true_iff]
  omega
theorem wrong_nil {l : List Int} : wrong roads pw l = [] ↔ ∀ c ∈ l, ¬ pwr pw c < (wout roads c l : Nat) := by
  unfold wrong
  rw [List.filter_eq_nil_iff]
  exact ⟨fun h c hc z => h c hc (decide_eq_true z), fun h c hc z => h c hc (of_decide_eq_true z)⟩
theorem left_ss (f : List Int) : SS (left f m) := (cr_ss m).sublist List.filter_sublist
theorem sort_cr {l : List Int} (h : l.Nodup) (h1 : ∀ x ∈ l, x ∈ cr m) (h2 : ∀ x ∈ cr m, x ∈ l) : W2.sortI l = cr m := by
  refine ss_unique (W2.sortI_ss h) (cr_ss m) ?_
  exact (W2.sortI_perm l).trans ((List.perm_ext_iff_of_nodup h (cr_ss m).nodup).mpr fun x => ⟨h1 x, h2 x⟩)
theorem flt_paper (hg : Good ((m : Int) + 1) roads) : flt roads pw m (paper roads pw m) = .none := by
  unfold paper
  by_cases c : (burnt roads pw m).length = m
  · rw [if_pos c]
    unfold burnsD
    rw [flt_lot burnt_cr]
    show fltB roads pw m _ = .none
    unfold fltB
    rw [if_pos (sort_cr (ord_nodup burnt_ord).1 burnt_cr (full_all c))]
    exact burn_none burnt_ord
  · rw [if_neg c]
    unfold leftD
    rw [flt_lot fun x hx => (mem_left.mp hx).1]
    have hk := left_kept hg c
    show fltL roads pw _ = .none
    unfold fltL
    rw [if_neg hk.1, if_pos (dn_ss (left_ss _)), wrong_nil.mpr hk.2]
    rfl
theorem flt_none (hg : Good ((m : Int) + 1) roads) {v : W2.D} (h : flt roads pw m v = .none) : ∃ w t, v = .tuple [w, t] ∧ ((w = .str "burns" ∧ (burnt roads pw m).length = m) ∨ (w = .str "lot" ∧ (burnt roads pw m).length ≠ m)) := by
  cases v with
  | tuple xs =>
    match xs, h with
    | [], h => cases h
    | [_], h => cases h
    | _ :: _ :: _ :: _, h => cases h
    | [w, t], h =>
      refine ⟨w, t, rfl, ?_⟩
      cases t with
      | tuple ds =>
        have h' : fltT roads pw m w ds = .none := h
        unfold fltT at h'
        by_cases c : ds.all (inR ((m : Int) + 1)) = true
        · rw [if_pos c] at h'
          obtain ⟨l, rfl, e2, e3⟩ := ints_inR c
          rw [e2] at h'
          have h2 : fltK roads pw m (kindOf w) l = .none := h'
          have hcr : ∀ x ∈ l, x ∈ cr m := fun x hx => mem_cr.mpr (e3 x hx)
          by_cases k0 : kindOf w = 0
          · rw [k0] at h2; cases h2
          · rcases kind_str k0 with ⟨rfl, k⟩ | ⟨rfl, k⟩
            · rw [k] at h2
              have h3 : fltB roads pw m l = .none := h2
              unfold fltB at h3
              by_cases cs : W2.sortI l = cr m
              · rw [if_pos cs] at h3
                have hn : l.Nodup := (W2.sortI_perm l).nodup_iff.mp (by rw [cs]; exact (cr_ss m).nodup)
                refine .inl ⟨rfl, full_of_ord hg (ord_of_none h3 hn fun x hx z => ?_) fun x hx => (W2.sortI_perm l).mem_iff.mp (by rw [cs]; exact hx)⟩
                have : x = 0 := by simpa using z
                have := e3 x hx
                omega
              · rw [if_neg cs] at h3; cases h3
            · rw [k] at h2
              have h3 : fltL roads pw l = .none := h2
              unfold fltL at h3
              by_cases c0 : l = []
              · rw [if_pos c0] at h3; cases h3
              · rw [if_neg c0] at h3
                by_cases c1 : dn l = []
                · rw [if_pos c1] at h3
                  refine .inr ⟨rfl, fun hf => (full_iff hg).mp hf l hcr ⟨c0, wrong_nil.mp ?_⟩⟩
                  cases q : wrong roads pw l with
                  | nil => rfl
                  | cons x r => rw [q] at h3; cases h3
                · rw [if_neg c1] at h3; cases h3
        · rw [if_neg c] at h'; cases h'
      | _ => cases h
  | _ => cases h
end
/-! ### drawn frames -/
def wf_frame : WF := fun ds Q => ∃ cs rs : Int, ds = [.int cs, .int rs] ∧ 1 ≤ cs ∧ cs ≤ 9 ∧ 0 ≤ rs ∧ rs ≤ 10 ∧ ∀ (m : Nat) (roads : List (Int × Int)), (m : Int) + 1 ≤ cs → roads.length ≤ m + 5 → Good ((m : Int) + 1) roads → Q (frD ((m : Int) + 1) roads)
theorem first_out {n : Int} : ∀ {t : List Int} {os : List (Option W2.D)}, Paired (fun v o => ∃ a, 0 ≤ a ∧ a < n ∧ o = some (rdD (a, v))) t os → (∀ v ∈ t, 0 ≤ v ∧ v < n) → ∃ u : List (Int × Int), os.filterMap id = u.map rdD ∧ u.length = t.length ∧ Good n u
  | _, _, .nil, _ => ⟨[], rfl, rfl, fun _ h => by cases h⟩
  | _, _, .cons (a := v) h r, hv => by
    obtain ⟨u, h1, h2, h3⟩ := first_out r fun q hq => hv q (List.mem_cons_of_mem _ hq)
    obtain ⟨a, a0, a1, rfl⟩ := h
    refine ⟨(a, v) :: u, ?_, by rw [List.length_cons, List.length_cons, h2], fun q hq => ?_⟩
    · rw [List.filterMap_cons]; show rdD (a, v) :: _ = _; rw [h1, List.map_cons]
    · rcases List.mem_cons.mp hq with e | e
      · subst e; exact ⟨⟨a0, a1⟩, hv v List.mem_cons_self⟩
      · exact h3 q e
theorem gAdd_int {i j k : Int} {Q : W2.D → Prop} (e : i + j = k) (h : Q (.int k)) : W2.gAdd (.int i) (.int j) Q := by subst e; exact h
set_option maxHeartbeats 2000000 in
theorem hw_frame (ds : List W2.D) (Q : W2.D → Prop) (_ : ds.length = 2) (h : wf_frame ds Q) :
    wb__law_frame { nx := fun _ => Q .none, rt := Q } (startE ["source", "crossings", "roads", "n", "pairs", "lap", "turned", "v", "a", "b"] (.src :: ds.map .fz)) := by
  obtain ⟨cs, rs, rfl, hc1, hc2, hr1, hr2, q⟩ := h
  refine ⟨rfl, by omega, fun r h0 h1 => ?_⟩
  obtain ⟨m, hm⟩ : ∃ k : Nat, r = k := ⟨r.toNat, by omega⟩
  subst hm
  have e1 : (1 : Int) + (m : Int) = (m : Int) + 1 := by omega
  refine gAdd_int e1 ?_
  refine ⟨⟨by omega, by omega, by omega, by omega⟩, ?_⟩
  show lcGo _ _ _ _ (rangeD 1 ((((m : Int) + 1)) - 1).toNat) [] _
  rw [rng_cr]
  refine lc_rel PyData.int (fun v o => ∃ a, 0 ≤ a ∧ a < (m : Int) + 1 ∧ o = some (rdD (a, v))) (cr m) [] (fun v hv R hR => ?_) (by rw [cr_len]; show 0 + m ≤ sizeLine; rw [sizeLine_eq]; omega) fun os hos => ?_
  · have hv' := mem_cr.mp hv
    exact ⟨rfl, by omega, fun a a0 a1 => ⟨(show 2 ≤ sizeLine by decide), hR _ ⟨a, a0, by omega, rfl⟩⟩⟩
  · obtain ⟨u, eu, hul, hgu⟩ := first_out hos fun v hv => by have := mem_cr.mp hv; omega
    rw [List.nil_append, eu]
    rw [cr_len] at hul
    refine ⟨rfl, ?_, fun j j0 j1 => ?_⟩
    · show (if rs - ((m : Int) + 1) + 2 < 5 then rs - ((m : Int) + 1) + 2 else 5) < 1073741824
      split <;> omega
    · have j2 : j < 5 := by
        have : j < max 1 (if rs - ((m : Int) + 1) + 2 < 5 then rs - ((m : Int) + 1) + 2 else 5) := j1
        split at this <;> omega
      obtain ⟨k, hk⟩ : ∃ k : Nat, j = k := ⟨j.toNat, by omega⟩
      subst hk
      refine ⟨⟨by omega, by omega⟩, ?_⟩
      show forGo _ _ _ ((List.range (Int.toNat (k : Int))).map fun i => .int (0 + (i : Nat))) _
      rw [Int.toNat_natCast]
      refine for_ix _ (fun i η => ∃ s a b c d e, s.length = m + i ∧ Good ((m : Int) + 1) s ∧ η = [.src, .fz (.int cs), .fz (.int rs), .fz (.int ((m : Int) + 1)), .ow (.list (s.map rdD)), a, b, c, d, e]) (fun i hi η hI Kc hK => ?_) (fun η hI => ?_) ⟨u, .un, .un, .un, .un, .un, by omega, hgu, rfl⟩
      · obtain ⟨s, a, b, c, d, e, hl, hg, rfl⟩ := hI
        refine ⟨rfl, rfl, by omega, fun y y0 y1 => ⟨rfl, by omega, fun z z0 z1 => ⟨(show 2 ≤ sizeLine by decide), ?_, ?_⟩⟩⟩
        · rw [List.length_map, sizeLine_eq]; omega
        · rw [rd_snoc]
          exact hK _ ⟨s ++ [(y, z)], _, _, _, _, _, by rw [List.length_append, hl]; rfl, good_snoc hg ⟨y0, by omega⟩ ⟨z0, by omega⟩, rfl⟩
      · obtain ⟨s, a, b, c, d, e, hl, hg, rfl⟩ := hI
        show lcGo _ _ _ _ (s.map rdD) [] _
        refine lc_rel rdD (fun p o => o = some (rdD p) ∨ o = some (rdD (p.2, p.1))) s [] (fun p hp R hR => ?_) (by show 0 + s.length ≤ sizeLine; rw [sizeLine_eq]; omega) fun os hos => ?_
        · refine ⟨rfl, rfl, by decide, fun z z0 z1 => ⟨eqOk_of rfl rfl, ?_⟩⟩
          show (if (z == 0) = true then _ else _)
          by_cases cz : (z == 0) = true
          · rw [if_pos cz]; exact ⟨(show 2 ≤ sizeLine by decide), hR _ (.inr rfl)⟩
          · rw [if_neg cz]; exact ⟨(show 2 ≤ sizeLine by decide), hR _ (.inl rfl)⟩
        · obtain ⟨t, et, htl, hgt⟩ := flip_out hos hg
          rw [List.nil_append, et]
          refine ⟨rfl, by rw [List.length_map]; omega, fun ys hp => ?_⟩
          obtain ⟨t2, ht, rfl⟩ := perm_of_map hp t rfl
          exact ⟨(show 2 ≤ sizeLine by decide), q m t2 (by omega) (by rw [ht.length_eq, htl, hl]; omega) fun p hp => hgt p (ht.mem_iff.mp hp)⟩
end K25

set_option Elab.async false
set_option linter.all false
set_option maxRecDepth 100000
namespace K25
open PySem PySem.Spec PyProof.Rows L2 W2 PySem.W

theorem ints_out {α : Type} {B : Int} : ∀ {t : List α} {os : List (Option W2.D)}, Paired (fun _ o => ∃ r, 0 ≤ r ∧ r ≤ B ∧ o = some (PyData.int r)) t os → ∃ pw : List Int, os.filterMap id = pw.map .int ∧ pw.length = t.length ∧ ∀ x ∈ pw, 0 ≤ x ∧ x ≤ B
  | _, _, .nil => ⟨[], rfl, rfl, fun _ h => by cases h⟩
  | _, _, .cons h r => by
    obtain ⟨u, h1, h2, h3⟩ := ints_out r
    obtain ⟨a, a0, a1, rfl⟩ := h
    refine ⟨a :: u, ?_, by rw [List.length_cons, List.length_cons, h2], fun q hq => ?_⟩
    · rw [List.filterMap_cons]; show PyData.int a :: _ = _; rw [h1, List.map_cons]
    · rcases List.mem_cons.mp hq with e | e
      · subst e; exact ⟨a0, a1⟩
      · exact h3 q e
theorem isPw_row {m : Nat} {pw : List Int} (hp : pw.length = m) (h0 : ∀ x ∈ pw, 0 ≤ x) : isPw ((m : Int) + 1) (rowPw pw) = true ∧ intsOf (pw.map PyData.int) = some pw := by
  have h : (pw.map PyData.int).all isN = true ∧ intsOf (pw.map PyData.int) = some pw := by
    clear hp
    induction pw with
    | nil => exact ⟨rfl, rfl⟩
    | cons x r ih =>
      obtain ⟨a, b⟩ := ih fun y hy => h0 y (List.mem_cons_of_mem _ hy)
      refine ⟨?_, ?_⟩
      · rw [List.map_cons, List.all_cons, a, Bool.and_true]
        exact decide_eq_true (h0 x List.mem_cons_self)
      · rw [List.map_cons]
        show (intsOf (r.map PyData.int)).map _ = _
        rw [b]; rfl
  refine ⟨?_, h.2⟩
  show ((((pw.map PyData.int).length : Int) == (m : Int) + 1 - 1) && (pw.map PyData.int).all isN) = true
  rw [h.1, Bool.and_true, beq_iff_eq, List.length_map]
  omega
theorem isPk_row {roads : List (Int × Int)} {m : Nat} {pw : List Int} (hp : pw.length = m) (h0 : ∀ x ∈ pw, 0 ≤ x) : isPk roads m (rowPw pw) = decide ((burnt roads pw m).length = m) := by
  obtain ⟨a, b⟩ := isPw_row hp h0
  show isPkT roads m (pw.map PyData.int) = _
  unfold isPkT
  have a' : isPw ((m : Int) + 1) (.tuple (pw.map PyData.int)) = true := a
  rw [a', b]; rfl
theorem is_kept {roads : List (Int × Int)} {pw : List Int} {m : Nat} {v : W2.D} (h : KeptV roads pw m v) {Q : W2.D → Prop} (q : Q (.bool (decide ((burnt roads pw m).length = m)))) : gIs false v .none Q := by
  rcases h with ⟨rfl, hf⟩ | ⟨⟨l, rfl⟩, hf⟩
  · rw [decide_eq_true hf] at q; exact q
  · rw [decide_eq_false hf] at q; exact q
theorem sh_I (i : Int) : Sh (.int i) := ⟨rfl, Nat.zero_le _⟩
theorem tup_row (pw : List Int) (h : pw.length ≤ 1000) : TupOk (rowPw pw) := fun ds e => by
  have e' : pw.map PyData.int = ds := PyData.tuple.inj e
  subst e'
  refine ⟨by rw [List.length_map]; exact h, fun x hx => ?_⟩
  obtain ⟨a, _, rfl⟩ := List.mem_map.mp hx
  exact sh_I a
theorem repr_bool (b : Bool) : reprOk (.bool b) = true := by cases b <;> decide +kernel
/-- told's first word -/
def word (b : Bool) : W2.D := if b = true then .str "burns" else .str "lot"
theorem paper0 {roads : List (Int × Int)} {pw : List Int} {m : Nat} {Q : W2.D → Prop} (q : Q (word (decide ((burnt roads pw m).length = m)))) : gIxA (paper roads pw m) (.int 0) Q := by
  unfold paper
  by_cases c : (burnt roads pw m).length = m
  · rw [if_pos c]
    rw [decide_eq_true c] at q
    exact ⟨_, rfl, q⟩
  · rw [if_neg c]
    rw [decide_eq_false c] at q
    exact ⟨_, rfl, q⟩
theorem word_burns (b : Bool) {Q : W2.D → Prop} (q : Q (.bool b)) : gEq (word b) (.str "burns") Q := by
  cases b
  · exact ⟨rfl, q⟩
  · exact ⟨rfl, q⟩
/-! what is drawn can be shown -/
theorem good_w {w : W2.D} (h : kindOf w = 0) (h1 : reprOk w = true) (h2 : Sh w) (h3 : w.shown ≠ "'burns'") (h4 : w.shown ≠ "'lot'") (h5 : SeqAt.shaped (.str w.shown) = true) : GoodW w := by
  refine ⟨h1, h2, ?_, h5⟩
  rw [h]
  show ((("'burns'" : Str) == w.shown) || ((("'lot'" : Str) == w.shown) || false)) = false
  rw [beq_eq_false_iff_ne.mpr (Ne.symm h3), beq_eq_false_iff_ne.mpr (Ne.symm h4)]; rfl
theorem good_burns : GoodW (.str "burns") := ⟨by decide +kernel, ⟨by decide +kernel, Nat.zero_le _⟩, by decide +kernel, by decide +kernel⟩
theorem good_lot : GoodW (.str "lot") := ⟨by decide +kernel, ⟨by decide +kernel, Nat.zero_le _⟩, by decide +kernel, by decide +kernel⟩
theorem good_Lot : GoodW (.str "Lot") := ⟨by decide +kernel, ⟨by decide +kernel, Nat.zero_le _⟩, by decide +kernel, by decide +kernel⟩
/-- the odd values -/
def odds (n : Int) : List W2.D := [.none, .bool true, .int (-1), .int n, .int 0, .str "0", .tuple [], .tuple [.int 0], .list [.int 0], .int 1000000000]
theorem good_odd {m : Nat} (hm : m ≤ 4) {o : W2.D} (h : o ∈ odds ((m : Int) + 1)) : GoodW o := by
  have hm' : m = 0 ∨ m = 1 ∨ m = 2 ∨ m = 3 ∨ m = 4 := by omega
  unfold odds at h
  rcases hm' with rfl | rfl | rfl | rfl | rfl <;>
  · simp only [List.mem_cons, List.not_mem_nil, or_false] at h
    rcases h with rfl | rfl | rfl | rfl | rfl | rfl | rfl | rfl | rfl | rfl <;>
    exact ⟨by decide +kernel, ⟨by decide +kernel, by decide +kernel⟩, by decide +kernel, by decide +kernel⟩
end K25

set_option Elab.async false
set_option linter.all false
set_option maxRecDepth 100000
namespace K25
open PySem PySem.Spec PyProof.Rows L2 W2 PySem.W
/-! the pieces of the law's body (printed by split.py) -/

def drawP : WS := (wIf (wTrB (W2.w2 gEq (wFnS 1 1 wfPick (wCons (wC (.int 2)) (wNil))) (wC (.int 0)))) (wAsg (wCall gTuple (wCons (wLc (wItems (wN 6)) (wGn 22) (wYes) (wFnS 1 1 wfPick (wCons (W2.w2 gAdd (wC (.int 1)) (wB 22)) (wNil))) [22]) (wNil))) (wGn 6)) (wNext))
def restA : WS := (wSeq (wPar [7, 8] (wMFz (wFn 2 wf_kept (wCons (wN 3) (wCons (wN 6) (wNil)))) (wMFz (wFn 2 wf_paper (wCons (wN 3) (wCons (wN 6) (wNil)))) (wMNil)))) (wSeq (wIf (wOrT (wTrB (W2.w2 gNe (wCall gRepr (wCons (wFn 2 wf_park (wCons (wN 3) (wCons (wN 6) (wNil)))) (wNil))) (wCall gRepr (wCons (W2.w2 (gIs false) (wB 7) (wC .none)) (wNil))))) (wTrB (W2.w2 gNe (W2.w2 gEq (W2.w2 gIxA (wB 8) (wC (.int 0))) (wC (.str "burns"))) (W2.w2 (gIs false) (wB 7) (wC .none))))) (wRet (wC (.bool false))) (wNext)) (wSeq (wIf (wTrB (W2.w2 (gIs true) (wFn 3 wf_fault (wCons (wN 3) (wCons (wN 6) (wCons (wN 8) (wNil))))) (wC .none))) (wRet (wC (.bool false))) (wNext)) (wSeq (wAsg (wFnS 1 1 wfPick (wCons (wN 4) (wNil))) (wGn 9)) (wSeq (wAsg (wSl (wFnS 1 1 wfMixed (wCons (wLstRg (wR1 (wB 4))) (wNil))) (wNoPart) (wPart (wFnS 1 1 wfPick (wCons (W2.w2 gAdd (wB 4) (wC (.int 1))) (wNil))))) (wGn 10)) (wSeq (wAsg (wLc (wRng1 (wB 4)) (wGn 21) (wOrT (wTrB (W2.w2 (gInA true) (wN 21) (wB 10))) (wTrB (W2.w2 gEq (wB 21) (wB 9)))) (wN 21) [21]) (wGn 11)) (wSeq (wIf (wTrB (W2.w2 gNe (wCall gRepr (wCons (wFn 3 wf_to (wCons (wN 3) (wCons (wN 9) (wCons (wCall gTuple (wCons (wB 10) (wNil))) (wNil))))) (wNil))) (wCall gRepr (wCons (wFn 3 wf_out (wCons (wN 3) (wCons (wN 9) (wCons (wN 11) (wNil))))) (wNil))))) (wRet (wC (.bool false))) (wNext)) (wSeq (wAsg (wFnS 1 1 wfOf (wCons (wLst (wCons (wC .none) (wCons (wC (.bool true)) (wCons (w1 gNeg (wC (.int 1))) (wCons (wN 4) (wCons (wC (.int 0)) (wCons (wC (.str "0")) (wCons (wTup (wNil)) (wCons (wTup (wCons (wC (.int 0)) (wNil))) (wCons (wLst (wCons (wC (.int 0)) (wNil))) (wCons (W2.w2 gPowI (wC (.int 10)) (wC (.int 9))) (wNil)))))))))))) (wNil))) (wGn 12)) (wSeq (wAsg (wCall gTuple (wCons (wFnS 1 1 wfMixed (wCons (wLstRg (wR2 (wC (.int 1)) (wB 4))) (wNil))) (wNil))) (wGn 13)) (wSeq (wAsg (wCall gTuple (wCons (wCall gSorted (wCons (wSl (wB 13) (wNoPart) (wPart (wFnS 1 1 wfPick (wCons (wN 4) (wNil))))) (wNil))) (wNil))) (wGn 14)) (wSeq (wAsg (wLst (wCons (wN 8) (wCons (wTup (wCons (wC (.str "burns")) (wCons (wN 13) (wNil)))) (wCons (wTup (wCons (wC (.str "lot")) (wCons (wN 14) (wNil)))) (wCons (wTup (wCons (wC (.str "lot")) (wCons (wRevT (wN 14)) (wNil)))) (wCons (wTup (wCons (wC (.str "burns")) (wCons (wN 14) (wNil)))) (wCons (wTup (wCons (wC (.str "lot")) (wCons (wN 13) (wNil)))) (wCons (wCall gList (wCons (wB 8) (wNil))) (wNil))))))))) (wGn 15)) (wSeq (wAsg (W2.w2 gCat (wB 15) (wLst (wCons (wTup (wCons (wC (.str "burns")) (wCons (wN 12) (wNil)))) (wCons (wTup (wCons (wC (.str "lot")) (wCons (wN 12) (wNil)))) (wCons (wTup (wCons (wC (.str "burns")) (wCons (W2.w2 gAdd (wB 13) (wTup (wCons (wN 12) (wNil)))) (wNil)))) (wCons (wTup (wCons (wC (.str "lot")) (wCons (wTup (wCons (wN 12) (wNil))) (wNil)))) (wCons (wTup (wCons (wN 12) (wCons (wN 13) (wNil)))) (wCons (wC .none) (wCons (wTup (wNil)) (wNil)))))))))) (wGn 15)) (wSeq (wAsg (W2.w2 gCat (wB 15) (wLst (wCons (wRevT (wN 8)) (wCons (wSl (wB 8) (wNoPart) (wPart (wC (.int 1)))) (wCons (W2.w2 gAdd (wB 8) (wTup (wCons (wC (.int 0)) (wNil)))) (wCons (wTup (wCons (wC (.str "burns")) (wCons (wCall gList (wCons (wB 13) (wNil))) (wNil)))) (wCons (wTup (wCons (wC (.str "lot")) (wCons (W2.w2 gAdd (wTup (wCons (wC (.int 0)) (wNil))) (wB 14)) (wNil)))) (wCons (wTup (wCons (wC (.str "Lot")) (wCons (wN 14) (wNil)))) (wNil))))))))) (wGn 15)) (wSeq (wFor (wItems (wN 15)) (wGn 16) (wSeq (wPar [17, 18] (wMFz (wCall gRepr (wCons (wB 16) (wNil))) (wMFz (wFn 3 wf_fault (wCons (wN 3) (wCons (wN 6) (wCons (wN 16) (wNil))))) (wMNil)))) (wSeq (wIf (wOrT (wTrB (W2.w2 gNe (wCall gRepr (wCons (wFn 3 wf_fault (wCons (wN 3) (wCons (wN 6) (wCons (wN 16) (wNil))))) (wNil))) (wCall gRepr (wCons (wB 18) (wNil))))) (wTrB (W2.w2 gNe (wCall gRepr (wCons (wB 16) (wNil))) (wB 17)))) (wRet (wC (.bool false))) (wNext)) (wIf (wAndT (wTrB (W2.w2 (gIs false) (wB 18) (wC .none))) (wTrB (W2.w2 gNe (W2.w2 gIxA (wB 16) (wC (.int 0))) (W2.w2 gIxA (wB 8) (wC (.int 0)))))) (wRet (wC (.bool false))) (wNext))))) (wSeq (wAsg (wFnS 1 1 wfPick (wCons (wN 4) (wNil))) (wGn 19)) (wSeq (wFor (wItems (wTup (wCons (wN 6) (wCons (W2.w2 gAdd (W2.w2 gAdd (wSl (wB 6) (wNoPart) (wPart (wB 19))) (wTup (wCons (wN 12) (wNil)))) (wSl (wB 6) (wPart (W2.w2 gAdd (wB 19) (wC (.int 1)))) (wNoPart))) (wCons (wCall gList (wCons (wB 6) (wNil))) (wCons (W2.w2 gAdd (wB 6) (wTup (wCons (wC (.int 0)) (wNil)))) (wCons (wSl (wB 6) (wPart (wC (.int 1))) (wNoPart)) (wCons (wN 12) (wNil))))))))) (wGn 16) (wSeq (wAsg (wFn 2 wf_arePw (wCons (wN 4) (wCons (wN 16) (wNil)))) (wGn 20)) (wSeq (wIf (wTrB (W2.w2 gNe (wCall gRepr (wCons (wFn 2 wf_arePw (wCons (wN 4) (wCons (wN 16) (wNil)))) (wNil))) (wCall gRepr (wCons (wB 20) (wNil))))) (wRet (wC (.bool false))) (wNext)) (wIf (wTrB (W2.w2 gNe (wCall gRepr (wCons (wFn 2 wf_park (wCons (wN 3) (wCons (wN 16) (wNil)))) (wNil))) (wCall gRepr (wCons (wAndV (wN 20) (W2.w2 (gIs false) (wFn 2 wf_kept (wCons (wN 3) (wCons (wN 16) (wNil)))) (wC .none))) (wNil))))) (wRet (wC (.bool false))) (wNext))))) (wIf (wTrB (W2.w2 gNe (wCall gRepr (wCons (wB 3) (wNil))) (wB 5))) (wRet (wC (.bool false))) (wNext))))))))))))))))))
def restB : WS := (wSeq (wAsg (wFnS 1 1 wfPick (wCons (wN 4) (wNil))) (wGn 9)) (wSeq (wAsg (wSl (wFnS 1 1 wfMixed (wCons (wLstRg (wR1 (wB 4))) (wNil))) (wNoPart) (wPart (wFnS 1 1 wfPick (wCons (W2.w2 gAdd (wB 4) (wC (.int 1))) (wNil))))) (wGn 10)) (wSeq (wAsg (wLc (wRng1 (wB 4)) (wGn 21) (wOrT (wTrB (W2.w2 (gInA true) (wN 21) (wB 10))) (wTrB (W2.w2 gEq (wB 21) (wB 9)))) (wN 21) [21]) (wGn 11)) (wSeq (wIf (wTrB (W2.w2 gNe (wCall gRepr (wCons (wFn 3 wf_to (wCons (wN 3) (wCons (wN 9) (wCons (wCall gTuple (wCons (wB 10) (wNil))) (wNil))))) (wNil))) (wCall gRepr (wCons (wFn 3 wf_out (wCons (wN 3) (wCons (wN 9) (wCons (wN 11) (wNil))))) (wNil))))) (wRet (wC (.bool false))) (wNext)) (wSeq (wAsg (wFnS 1 1 wfOf (wCons (wLst (wCons (wC .none) (wCons (wC (.bool true)) (wCons (w1 gNeg (wC (.int 1))) (wCons (wN 4) (wCons (wC (.int 0)) (wCons (wC (.str "0")) (wCons (wTup (wNil)) (wCons (wTup (wCons (wC (.int 0)) (wNil))) (wCons (wLst (wCons (wC (.int 0)) (wNil))) (wCons (W2.w2 gPowI (wC (.int 10)) (wC (.int 9))) (wNil)))))))))))) (wNil))) (wGn 12)) (wSeq (wAsg (wCall gTuple (wCons (wFnS 1 1 wfMixed (wCons (wLstRg (wR2 (wC (.int 1)) (wB 4))) (wNil))) (wNil))) (wGn 13)) (wSeq (wAsg (wCall gTuple (wCons (wCall gSorted (wCons (wSl (wB 13) (wNoPart) (wPart (wFnS 1 1 wfPick (wCons (wN 4) (wNil))))) (wNil))) (wNil))) (wGn 14)) (wSeq (wAsg (wLst (wCons (wN 8) (wCons (wTup (wCons (wC (.str "burns")) (wCons (wN 13) (wNil)))) (wCons (wTup (wCons (wC (.str "lot")) (wCons (wN 14) (wNil)))) (wCons (wTup (wCons (wC (.str "lot")) (wCons (wRevT (wN 14)) (wNil)))) (wCons (wTup (wCons (wC (.str "burns")) (wCons (wN 14) (wNil)))) (wCons (wTup (wCons (wC (.str "lot")) (wCons (wN 13) (wNil)))) (wCons (wCall gList (wCons (wB 8) (wNil))) (wNil))))))))) (wGn 15)) (wSeq (wAsg (W2.w2 gCat (wB 15) (wLst (wCons (wTup (wCons (wC (.str "burns")) (wCons (wN 12) (wNil)))) (wCons (wTup (wCons (wC (.str "lot")) (wCons (wN 12) (wNil)))) (wCons (wTup (wCons (wC (.str "burns")) (wCons (W2.w2 gAdd (wB 13) (wTup (wCons (wN 12) (wNil)))) (wNil)))) (wCons (wTup (wCons (wC (.str "lot")) (wCons (wTup (wCons (wN 12) (wNil))) (wNil)))) (wCons (wTup (wCons (wN 12) (wCons (wN 13) (wNil)))) (wCons (wC .none) (wCons (wTup (wNil)) (wNil)))))))))) (wGn 15)) (wSeq (wAsg (W2.w2 gCat (wB 15) (wLst (wCons (wRevT (wN 8)) (wCons (wSl (wB 8) (wNoPart) (wPart (wC (.int 1)))) (wCons (W2.w2 gAdd (wB 8) (wTup (wCons (wC (.int 0)) (wNil)))) (wCons (wTup (wCons (wC (.str "burns")) (wCons (wCall gList (wCons (wB 13) (wNil))) (wNil)))) (wCons (wTup (wCons (wC (.str "lot")) (wCons (W2.w2 gAdd (wTup (wCons (wC (.int 0)) (wNil))) (wB 14)) (wNil)))) (wCons (wTup (wCons (wC (.str "Lot")) (wCons (wN 14) (wNil)))) (wNil))))))))) (wGn 15)) (wSeq (wFor (wItems (wN 15)) (wGn 16) (wSeq (wPar [17, 18] (wMFz (wCall gRepr (wCons (wB 16) (wNil))) (wMFz (wFn 3 wf_fault (wCons (wN 3) (wCons (wN 6) (wCons (wN 16) (wNil))))) (wMNil)))) (wSeq (wIf (wOrT (wTrB (W2.w2 gNe (wCall gRepr (wCons (wFn 3 wf_fault (wCons (wN 3) (wCons (wN 6) (wCons (wN 16) (wNil))))) (wNil))) (wCall gRepr (wCons (wB 18) (wNil))))) (wTrB (W2.w2 gNe (wCall gRepr (wCons (wB 16) (wNil))) (wB 17)))) (wRet (wC (.bool false))) (wNext)) (wIf (wAndT (wTrB (W2.w2 (gIs false) (wB 18) (wC .none))) (wTrB (W2.w2 gNe (W2.w2 gIxA (wB 16) (wC (.int 0))) (W2.w2 gIxA (wB 8) (wC (.int 0)))))) (wRet (wC (.bool false))) (wNext))))) (wSeq (wAsg (wFnS 1 1 wfPick (wCons (wN 4) (wNil))) (wGn 19)) (wSeq (wFor (wItems (wTup (wCons (wN 6) (wCons (W2.w2 gAdd (W2.w2 gAdd (wSl (wB 6) (wNoPart) (wPart (wB 19))) (wTup (wCons (wN 12) (wNil)))) (wSl (wB 6) (wPart (W2.w2 gAdd (wB 19) (wC (.int 1)))) (wNoPart))) (wCons (wCall gList (wCons (wB 6) (wNil))) (wCons (W2.w2 gAdd (wB 6) (wTup (wCons (wC (.int 0)) (wNil)))) (wCons (wSl (wB 6) (wPart (wC (.int 1))) (wNoPart)) (wCons (wN 12) (wNil))))))))) (wGn 16) (wSeq (wAsg (wFn 2 wf_arePw (wCons (wN 4) (wCons (wN 16) (wNil)))) (wGn 20)) (wSeq (wIf (wTrB (W2.w2 gNe (wCall gRepr (wCons (wFn 2 wf_arePw (wCons (wN 4) (wCons (wN 16) (wNil)))) (wNil))) (wCall gRepr (wCons (wB 20) (wNil))))) (wRet (wC (.bool false))) (wNext)) (wIf (wTrB (W2.w2 gNe (wCall gRepr (wCons (wFn 2 wf_park (wCons (wN 3) (wCons (wN 16) (wNil)))) (wNil))) (wCall gRepr (wCons (wAndV (wN 20) (W2.w2 (gIs false) (wFn 2 wf_kept (wCons (wN 3) (wCons (wN 16) (wNil)))) (wC .none))) (wNil))))) (wRet (wC (.bool false))) (wNext))))) (wIf (wTrB (W2.w2 gNe (wCall gRepr (wCons (wB 3) (wNil))) (wB 5))) (wRet (wC (.bool false))) (wNext)))))))))))))))
def restC : WS := (wSeq (wAsg (wFnS 1 1 wfOf (wCons (wLst (wCons (wC .none) (wCons (wC (.bool true)) (wCons (w1 gNeg (wC (.int 1))) (wCons (wN 4) (wCons (wC (.int 0)) (wCons (wC (.str "0")) (wCons (wTup (wNil)) (wCons (wTup (wCons (wC (.int 0)) (wNil))) (wCons (wLst (wCons (wC (.int 0)) (wNil))) (wCons (W2.w2 gPowI (wC (.int 10)) (wC (.int 9))) (wNil)))))))))))) (wNil))) (wGn 12)) (wSeq (wAsg (wCall gTuple (wCons (wFnS 1 1 wfMixed (wCons (wLstRg (wR2 (wC (.int 1)) (wB 4))) (wNil))) (wNil))) (wGn 13)) (wSeq (wAsg (wCall gTuple (wCons (wCall gSorted (wCons (wSl (wB 13) (wNoPart) (wPart (wFnS 1 1 wfPick (wCons (wN 4) (wNil))))) (wNil))) (wNil))) (wGn 14)) (wSeq (wAsg (wLst (wCons (wN 8) (wCons (wTup (wCons (wC (.str "burns")) (wCons (wN 13) (wNil)))) (wCons (wTup (wCons (wC (.str "lot")) (wCons (wN 14) (wNil)))) (wCons (wTup (wCons (wC (.str "lot")) (wCons (wRevT (wN 14)) (wNil)))) (wCons (wTup (wCons (wC (.str "burns")) (wCons (wN 14) (wNil)))) (wCons (wTup (wCons (wC (.str "lot")) (wCons (wN 13) (wNil)))) (wCons (wCall gList (wCons (wB 8) (wNil))) (wNil))))))))) (wGn 15)) (wSeq (wAsg (W2.w2 gCat (wB 15) (wLst (wCons (wTup (wCons (wC (.str "burns")) (wCons (wN 12) (wNil)))) (wCons (wTup (wCons (wC (.str "lot")) (wCons (wN 12) (wNil)))) (wCons (wTup (wCons (wC (.str "burns")) (wCons (W2.w2 gAdd (wB 13) (wTup (wCons (wN 12) (wNil)))) (wNil)))) (wCons (wTup (wCons (wC (.str "lot")) (wCons (wTup (wCons (wN 12) (wNil))) (wNil)))) (wCons (wTup (wCons (wN 12) (wCons (wN 13) (wNil)))) (wCons (wC .none) (wCons (wTup (wNil)) (wNil)))))))))) (wGn 15)) (wSeq (wAsg (W2.w2 gCat (wB 15) (wLst (wCons (wRevT (wN 8)) (wCons (wSl (wB 8) (wNoPart) (wPart (wC (.int 1)))) (wCons (W2.w2 gAdd (wB 8) (wTup (wCons (wC (.int 0)) (wNil)))) (wCons (wTup (wCons (wC (.str "burns")) (wCons (wCall gList (wCons (wB 13) (wNil))) (wNil)))) (wCons (wTup (wCons (wC (.str "lot")) (wCons (W2.w2 gAdd (wTup (wCons (wC (.int 0)) (wNil))) (wB 14)) (wNil)))) (wCons (wTup (wCons (wC (.str "Lot")) (wCons (wN 14) (wNil)))) (wNil))))))))) (wGn 15)) (wSeq (wFor (wItems (wN 15)) (wGn 16) (wSeq (wPar [17, 18] (wMFz (wCall gRepr (wCons (wB 16) (wNil))) (wMFz (wFn 3 wf_fault (wCons (wN 3) (wCons (wN 6) (wCons (wN 16) (wNil))))) (wMNil)))) (wSeq (wIf (wOrT (wTrB (W2.w2 gNe (wCall gRepr (wCons (wFn 3 wf_fault (wCons (wN 3) (wCons (wN 6) (wCons (wN 16) (wNil))))) (wNil))) (wCall gRepr (wCons (wB 18) (wNil))))) (wTrB (W2.w2 gNe (wCall gRepr (wCons (wB 16) (wNil))) (wB 17)))) (wRet (wC (.bool false))) (wNext)) (wIf (wAndT (wTrB (W2.w2 (gIs false) (wB 18) (wC .none))) (wTrB (W2.w2 gNe (W2.w2 gIxA (wB 16) (wC (.int 0))) (W2.w2 gIxA (wB 8) (wC (.int 0)))))) (wRet (wC (.bool false))) (wNext))))) (wSeq (wAsg (wFnS 1 1 wfPick (wCons (wN 4) (wNil))) (wGn 19)) (wSeq (wFor (wItems (wTup (wCons (wN 6) (wCons (W2.w2 gAdd (W2.w2 gAdd (wSl (wB 6) (wNoPart) (wPart (wB 19))) (wTup (wCons (wN 12) (wNil)))) (wSl (wB 6) (wPart (W2.w2 gAdd (wB 19) (wC (.int 1)))) (wNoPart))) (wCons (wCall gList (wCons (wB 6) (wNil))) (wCons (W2.w2 gAdd (wB 6) (wTup (wCons (wC (.int 0)) (wNil)))) (wCons (wSl (wB 6) (wPart (wC (.int 1))) (wNoPart)) (wCons (wN 12) (wNil))))))))) (wGn 16) (wSeq (wAsg (wFn 2 wf_arePw (wCons (wN 4) (wCons (wN 16) (wNil)))) (wGn 20)) (wSeq (wIf (wTrB (W2.w2 gNe (wCall gRepr (wCons (wFn 2 wf_arePw (wCons (wN 4) (wCons (wN 16) (wNil)))) (wNil))) (wCall gRepr (wCons (wB 20) (wNil))))) (wRet (wC (.bool false))) (wNext)) (wIf (wTrB (W2.w2 gNe (wCall gRepr (wCons (wFn 2 wf_park (wCons (wN 3) (wCons (wN 16) (wNil)))) (wNil))) (wCall gRepr (wCons (wAndV (wN 20) (W2.w2 (gIs false) (wFn 2 wf_kept (wCons (wN 3) (wCons (wN 16) (wNil)))) (wC .none))) (wNil))))) (wRet (wC (.bool false))) (wNext))))) (wIf (wTrB (W2.w2 gNe (wCall gRepr (wCons (wB 3) (wNil))) (wB 5))) (wRet (wC (.bool false))) (wNext)))))))))))
def restD : WS := (wSeq (wFor (wItems (wN 15)) (wGn 16) (wSeq (wPar [17, 18] (wMFz (wCall gRepr (wCons (wB 16) (wNil))) (wMFz (wFn 3 wf_fault (wCons (wN 3) (wCons (wN 6) (wCons (wN 16) (wNil))))) (wMNil)))) (wSeq (wIf (wOrT (wTrB (W2.w2 gNe (wCall gRepr (wCons (wFn 3 wf_fault (wCons (wN 3) (wCons (wN 6) (wCons (wN 16) (wNil))))) (wNil))) (wCall gRepr (wCons (wB 18) (wNil))))) (wTrB (W2.w2 gNe (wCall gRepr (wCons (wB 16) (wNil))) (wB 17)))) (wRet (wC (.bool false))) (wNext)) (wIf (wAndT (wTrB (W2.w2 (gIs false) (wB 18) (wC .none))) (wTrB (W2.w2 gNe (W2.w2 gIxA (wB 16) (wC (.int 0))) (W2.w2 gIxA (wB 8) (wC (.int 0)))))) (wRet (wC (.bool false))) (wNext))))) (wSeq (wAsg (wFnS 1 1 wfPick (wCons (wN 4) (wNil))) (wGn 19)) (wSeq (wFor (wItems (wTup (wCons (wN 6) (wCons (W2.w2 gAdd (W2.w2 gAdd (wSl (wB 6) (wNoPart) (wPart (wB 19))) (wTup (wCons (wN 12) (wNil)))) (wSl (wB 6) (wPart (W2.w2 gAdd (wB 19) (wC (.int 1)))) (wNoPart))) (wCons (wCall gList (wCons (wB 6) (wNil))) (wCons (W2.w2 gAdd (wB 6) (wTup (wCons (wC (.int 0)) (wNil)))) (wCons (wSl (wB 6) (wPart (wC (.int 1))) (wNoPart)) (wCons (wN 12) (wNil))))))))) (wGn 16) (wSeq (wAsg (wFn 2 wf_arePw (wCons (wN 4) (wCons (wN 16) (wNil)))) (wGn 20)) (wSeq (wIf (wTrB (W2.w2 gNe (wCall gRepr (wCons (wFn 2 wf_arePw (wCons (wN 4) (wCons (wN 16) (wNil)))) (wNil))) (wCall gRepr (wCons (wB 20) (wNil))))) (wRet (wC (.bool false))) (wNext)) (wIf (wTrB (W2.w2 gNe (wCall gRepr (wCons (wFn 2 wf_park (wCons (wN 3) (wCons (wN 16) (wNil)))) (wNil))) (wCall gRepr (wCons (wAndV (wN 20) (W2.w2 (gIs false) (wFn 2 wf_kept (wCons (wN 3) (wCons (wN 16) (wNil)))) (wC .none))) (wNil))))) (wRet (wC (.bool false))) (wNext))))) (wIf (wTrB (W2.w2 gNe (wCall gRepr (wCons (wB 3) (wNil))) (wB 5))) (wRet (wC (.bool false))) (wNext)))))
def restE : WS := (wSeq (wAsg (wFnS 1 1 wfPick (wCons (wN 4) (wNil))) (wGn 19)) (wSeq (wFor (wItems (wTup (wCons (wN 6) (wCons (W2.w2 gAdd (W2.w2 gAdd (wSl (wB 6) (wNoPart) (wPart (wB 19))) (wTup (wCons (wN 12) (wNil)))) (wSl (wB 6) (wPart (W2.w2 gAdd (wB 19) (wC (.int 1)))) (wNoPart))) (wCons (wCall gList (wCons (wB 6) (wNil))) (wCons (W2.w2 gAdd (wB 6) (wTup (wCons (wC (.int 0)) (wNil)))) (wCons (wSl (wB 6) (wPart (wC (.int 1))) (wNoPart)) (wCons (wN 12) (wNil))))))))) (wGn 16) (wSeq (wAsg (wFn 2 wf_arePw (wCons (wN 4) (wCons (wN 16) (wNil)))) (wGn 20)) (wSeq (wIf (wTrB (W2.w2 gNe (wCall gRepr (wCons (wFn 2 wf_arePw (wCons (wN 4) (wCons (wN 16) (wNil)))) (wNil))) (wCall gRepr (wCons (wB 20) (wNil))))) (wRet (wC (.bool false))) (wNext)) (wIf (wTrB (W2.w2 gNe (wCall gRepr (wCons (wFn 2 wf_park (wCons (wN 3) (wCons (wN 16) (wNil)))) (wNil))) (wCall gRepr (wCons (wAndV (wN 20) (W2.w2 (gIs false) (wFn 2 wf_kept (wCons (wN 3) (wCons (wN 16) (wNil)))) (wC .none))) (wNil))))) (wRet (wC (.bool false))) (wNext))))) (wIf (wTrB (W2.w2 gNe (wCall gRepr (wCons (wB 3) (wNil))) (wB 5))) (wRet (wC (.bool false))) (wNext))))
end K25

set_option Elab.async false
set_option linter.all false
set_option maxRecDepth 100000
namespace K25
open PySem PySem.Spec PyProof.Rows L2 W2 PySem.W

theorem for_each {g : WG} {body : WS} {W : WEnds} (I : En → Prop) : ∀ (ds : List W2.D) (η : En), I η →
    (∀ d ∈ ds, ∀ η, I η → ∀ Kc : En → Prop, (∀ η', I η' → Kc η') → g d η fun η1 => body { nx := Kc, rt := W.rt, bk := W.nx, ct := Kc } η1) → (∀ η', I η' → W.nx η') → forGo g body W ds η
  | [], η, hi, _, hend => hend η hi
  | d :: r, η, hi, h, hend => h d List.mem_cons_self η hi _ fun η' hi' => for_each I r η' hi' (fun y hy => h y (List.mem_cons_of_mem _ hy)) hend
theorem mem_cut {ds : List W2.D} {lo hi : Option Int} {x : W2.D} (h : x ∈ W2.cutD ds lo hi) : x ∈ ds := List.mem_of_mem_drop (List.mem_of_mem_take h)
theorem cut_le {ds : List W2.D} {lo hi : Option Int} : (W2.cutD ds lo hi).length ≤ ds.length := by
  unfold W2.cutD
  rw [List.length_take, List.length_drop]
  omega
theorem pw_of {m : Nat} {v : W2.D} (h : isPw ((m : Int) + 1) v = true) : ∃ pw : List Int, v = rowPw pw ∧ pw.length = m ∧ ∀ x ∈ pw, 0 ≤ x := by
  cases v with
  | tuple ds =>
    have c' : (((ds.length : Int) == (m : Int) + 1 - 1) && ds.all isN) = true := h
    rw [Bool.and_eq_true, beq_iff_eq] at c'
    obtain ⟨pw, e1, e2, e3⟩ := ints_of c'.2
    subst e1
    refine ⟨pw, rfl, ?_, e3⟩
    have := c'.1
    rw [List.length_map] at this
    omega
  | _ => cases h
theorem str_ne (s : Str) : (!PyData.eqv (.str s) (.str s)) = false := by
  show (!(s == s)) = false
  rw [beq_self_eq_true]; rfl
def envL (roads : List (Int × Int)) (m : Nat) (pw : List Int) (odd a2 a7 a8 a9 a10 a11 a13 a14 a15 a16 a17 a18 a19 a20 a21 a22 : W2.Slot) : En :=
  [.un, .src, a2, .fz (frD ((m : Int) + 1) roads), .fz (.int ((m : Int) + 1)), .fz (.str (frD ((m : Int) + 1) roads).shown), .fz (rowPw pw), a7, a8, a9, a10, a11, odd, a13, a14, a15, a16, a17, a18, a19, a20, a21, a22]
set_option maxHeartbeats 4000000 in
theorem restE_ok {roads : List (Int × Int)} {m : Nat} {pw : List Int} {o : W2.D} (hm : m ≤ 4) (hl : roads.length ≤ 9) (hg : Good ((m : Int) + 1) roads) (hp : pw.length = m) (ho : Sh o) (hto : TupOk o)
    (hrf : reprOk (frD ((m : Int) + 1) roads) = true) {Kc bk : En → Prop} (hK : ∀ a2 a3 a4 a5 a6 a7 a8 a9 a10 a11 a12 a13 a14 a15 a16 a17 a18 a19 a20 a21 a22, Kc [.un, .src, a2, a3, a4, a5, a6, a7, a8, a9, a10, a11, a12, a13, a14, a15, a16, a17, a18, a19, a20, a21, a22])
    (a2 a7 a8 a9 a10 a11 a13 a14 a15 a16 a17 a18 a19 a20 a21 a22 : W2.Slot) :
    restE { nx := Kc, rt := fun d => d = .bool true, bk := bk, ct := Kc } (envL roads m pw (.fz o) a2 a7 a8 a9 a10 a11 a13 a14 a15 a16 a17 a18 a19 a20 a21 a22) := by
  refine ⟨rfl, by omega, fun k k0 k1 => ?_⟩
  have hsz : ∀ n : Nat, n ≤ 1000 → n ≤ sizeLine := fun n h => le_line (by omega)
  have hc1 : (W2.cutD (pw.map PyData.int) none (some k)).length ≤ 4 := Nat.le_trans cut_le (by rw [List.length_map]; omega)
  have hc2 : (W2.cutD (pw.map PyData.int) (some (k + 1)) none).length ≤ 4 := Nat.le_trans cut_le (by rw [List.length_map]; omega)
  have hi : ∀ x ∈ pw.map PyData.int, Sh x := fun x hx => by
    obtain ⟨a, _, rfl⟩ := List.mem_map.mp hx
    exact sh_I a
  refine ⟨(show 1 ≤ sizeLine by decide), hsz _ (by simp; omega), hsz _ (by simp; omega), (show 1 ≤ sizeLine by decide), hsz _ (by simp; omega), (show 6 ≤ sizeLine by decide), ?_⟩
  refine for_each (fun η => ∃ b16 b20, η = envL roads m pw (.fz o) a2 a7 a8 a9 a10 a11 a13 a14 a15 b16 a17 a18 (.fz (.int k)) b20 a21 a22) _ _ ⟨a16, a20, rfl⟩ (fun v hv η hI Kc2 hK2 => ?_) (fun η hI => ?_)
  · obtain ⟨b16, b20, rfl⟩ := hI
    have hv' : TupOk v := by
      have mk : ∀ ds : List W2.D, ds.length ≤ 1000 → (∀ x ∈ ds, Sh x) → TupOk (.tuple ds) := fun ds h1 h2 es e => by
        have e' : ds = es := PyData.tuple.inj e
        subst e'
        exact ⟨h1, h2⟩
      simp only [List.mem_cons, List.not_mem_nil, or_false] at hv
      rcases hv with rfl | rfl | rfl | rfl | rfl | rfl
      · exact tup_row pw (by omega)
      · refine mk _ (by simp; omega) fun x hx => ?_
        rcases List.mem_append.mp hx with z | z
        · rcases List.mem_append.mp z with y | y
          · exact hi x (mem_cut y)
          · have : x = o := by simpa using y
            subst this; exact ho
        · exact hi x (mem_cut z)
      · intro ds e; cases e
      · refine mk _ (by simp; omega) fun x hx => ?_
        rcases List.mem_append.mp hx with z | z
        · exact hi x z
        · have : x = .int 0 := by simpa using z
          subst this; exact sh_I 0
      · exact mk _ (Nat.le_trans cut_le (by simp; omega)) fun x hx => hi x (mem_cut hx)
      · exact hto
    refine ⟨rfl, (m : Int) + 1, v, rfl, hv', ?_⟩
    refine ⟨rfl, (m : Int) + 1, v, rfl, hv', repr_bool _, repr_bool _, ?_⟩
    refine gNe_str rfl ?_
    refine ⟨rfl, m, roads, v, rfl, hv', by omega, by omega, repr_bool _, ?_⟩
    show (match PyData.bool (isPw ((m : Int) + 1) v) with | .bool true => _ | .bool false => (reprOk (.bool false) = true ∧ eqOk (.str (PyData.bool (isPk roads m v)).shown) (.str (PyData.bool false).shown) = true ∧ (if (!PyData.eqv (.str (PyData.bool (isPk roads m v)).shown) (.str (PyData.bool false).shown)) = true then _ else Kc2 _)) | _ => False)
    cases c : isPw ((m : Int) + 1) v with
    | false =>
      have ek : isPk roads m v = false := by
        cases v <;> first | rfl | skip
        show isPkT roads m _ = false
        unfold isPkT
        rw [c]; rfl
      refine ⟨repr_bool _, rfl, ?_⟩
      rw [ek, str_ne]
      rw [if_neg Bool.false_ne_true]
      exact hK2 _ ⟨_, _, rfl⟩
    | true =>
      obtain ⟨pw2, rfl, hp2, h02⟩ := pw_of c
      refine ⟨rfl, m, roads, pw2, rfl, by omega, hp2, by omega, hg, fun u hu => ?_⟩
      have fin : ∀ b : Bool, decide ((burnt roads pw2 m).length = m) = b → (!PyData.eqv (.str (PyData.bool (isPk roads m (rowPw pw2))).shown) (.str (PyData.bool b).shown)) = false := fun b e => by
        rw [isPk_row hp2 h02, e, str_ne]
      rcases hu with ⟨rfl, hf⟩ | ⟨⟨l, rfl⟩, hf⟩
      · refine ⟨repr_bool true, rfl, ?_⟩
        show (if (!PyData.eqv (.str (PyData.bool (isPk roads m (rowPw pw2))).shown) (.str (PyData.bool true).shown)) = true then _ else Kc2 _)
        rw [fin true (decide_eq_true hf), if_neg Bool.false_ne_true]
        exact hK2 _ ⟨_, _, rfl⟩
      · refine ⟨repr_bool false, rfl, ?_⟩
        show (if (!PyData.eqv (.str (PyData.bool (isPk roads m (rowPw pw2))).shown) (.str (PyData.bool false).shown)) = true then _ else Kc2 _)
        rw [fin false (decide_eq_false hf), if_neg Bool.false_ne_true]
        exact hK2 _ ⟨_, _, rfl⟩
  · obtain ⟨b16, b20, rfl⟩ := hI
    refine ⟨hrf, rfl, ?_⟩
    show (if (!PyData.eqv (.str (frD ((m : Int) + 1) roads).shown) (.str (frD ((m : Int) + 1) roads).shown)) = true then _ else Kc _)
    rw [str_ne, if_neg Bool.false_ne_true]
    exact hK _ _ _ _ _ _ _ _ _ _ _ _ _ _ _ _ _ _ _ _ _
end K25

set_option Elab.async false
set_option linter.all false
set_option maxRecDepth 100000
namespace K25
open PySem PySem.Spec PyProof.Rows L2 W2 PySem.W

theorem repr_pair (s : Str) (i : Int) (hs : reprOk (.str s) = true) (hl : (PyData.str s).shown.length ≤ 100) (hi : i.natAbs ≤ 1000) : reprOk (.tuple [.str s, .int i]) = true := by
  have h0 : (PyData.str s).canLay0 = true := reprOk_lay hs
  have h1 : (PyData.str s).showable = true := by
    unfold reprOk at hs
    rw [Bool.and_eq_true, Bool.and_eq_true, Bool.and_eq_true] at hs
    exact hs.1.1.2
  refine reprOk_of ?_ ?_ ?_ ?_
  · show ((PyData.str s).canLay0 && (true && true)) = true
    rw [h0]; rfl
  · show ((PyData.str s).showable && ((PyData.int i).showable && true)) = true
    rw [h1, show_int (by omega)]; rfl
  · show max 0 (max 0 0) + 1 ≤ 64
    decide
  · have a1 := sh_tuple [.str s, .int i]
    have a2 : piled (PyData.shownAll [.str s, .int i]) = ((PyData.str s).shown.length + 2) + (((PyData.int i).shown.length + 2) + 0) := by
      show piled [_, _] = _
      rw [piled_cons, piled_cons]; rfl
    have a3 := sh_int hi
    show (PyData.tuple _).shown.length ≤ _
    omega
theorem repr_form : reprOk formD = true := by decide +kernel
theorem repr_none : reprOk .none = true := by decide +kernel
theorem repr_burn {roads : List (Int × Int)} {pw : List Int} : ∀ (l s : List Int) (k : Nat), k + l.length ≤ 1000 → reprOk (burnAt roads pw s k l) = true
  | [], _, _, _ => repr_none
  | c :: r, s, k, h => by
    rw [List.length_cons] at h
    unfold burnAt
    split
    · exact repr_burn r _ (k + 1) (by omega)
    · exact repr_pair _ _ (by decide +kernel) (by decide +kernel) (by omega)
theorem repr_flt {roads : List (Int × Int)} {pw : List Int} {m : Nat} (hm : m ≤ 10) {v : W2.D} (hv : GoodV v) : reprOk (flt roads pw m v) = true := by
  cases v with
  | tuple xs =>
    match xs, hv with
    | [], _ => exact repr_form
    | [_], _ => exact repr_form
    | _ :: _ :: _ :: _, _ => exact repr_form
    | [w, t], hv =>
      cases t with
      | tuple ds =>
        obtain ⟨d1, d2⟩ := (hv w _ rfl).2 ds rfl
        show reprOk (fltT roads pw m w ds) = true
        unfold fltT
        by_cases c : ds.all (inR ((m : Int) + 1)) = true
        · rw [if_pos c]
          obtain ⟨l, rfl, e2, e3⟩ := ints_inR c
          rw [e2]
          rw [List.length_map] at d1
          show reprOk (fltK roads pw m (kindOf w) l) = true
          unfold fltK fltB fltL
          split
          · split
            · exact repr_burn l _ 0 (by omega)
            · exact repr_form
          · split
            · split
              · exact repr_form
              · split
                · cases q : wrong roads pw l with
                  | nil => exact repr_none
                  | cons x r =>
                    have hx : x ∈ l := (List.mem_filter.mp (show x ∈ wrong roads pw l by rw [q]; exact List.mem_cons_self)).1
                    have := e3 x hx
                    exact repr_pair _ _ (by decide +kernel) (by decide +kernel) (by omega)
                · exact repr_form
            · exact repr_form
        · rw [if_neg c]; exact repr_form
      | _ => exact repr_form
  | _ => exact repr_form
def nn (d : W2.D) : Bool := match d with
  | .none => true
  | _ => false
theorem nn_none {d : W2.D} (h : nn d = true) : d = .none := by cases d <;> first | rfl | cases h
set_option maxHeartbeats 4000000 in
theorem restD_ok {roads : List (Int × Int)} {m : Nat} {pw : List Int} {o : W2.D} {vs : List W2.D} (hm : m ≤ 4) (hl : roads.length ≤ 9) (hg : Good ((m : Int) + 1) roads) (hp : pw.length = m) (ho : Sh o) (hto : TupOk o)
    (hvs : ∀ v ∈ vs, GoodV v ∧ reprOk v = true)
    (hrf : reprOk (frD ((m : Int) + 1) roads) = true) {Kc bk : En → Prop} (hK : ∀ a2 a3 a4 a5 a6 a7 a8 a9 a10 a11 a12 a13 a14 a15 a16 a17 a18 a19 a20 a21 a22, Kc [.un, .src, a2, a3, a4, a5, a6, a7, a8, a9, a10, a11, a12, a13, a14, a15, a16, a17, a18, a19, a20, a21, a22])
    (a2 a7 a9 a10 a11 a13 a14 a16 a17 a18 a19 a20 a21 a22 : W2.Slot) :
    restD { nx := Kc, rt := fun d => d = .bool true, bk := bk, ct := Kc } (envL roads m pw (.fz o) a2 a7 (.fz (paper roads pw m)) a9 a10 a11 a13 a14 (.fz (.list vs)) a16 a17 a18 a19 a20 a21 a22) := by
  show forGo _ _ _ vs _
  refine for_each (fun η => ∃ b16 b17 b18, η = envL roads m pw (.fz o) a2 a7 (.fz (paper roads pw m)) a9 a10 a11 a13 a14 (.fz (.list vs)) b16 b17 b18 a19 a20 a21 a22) vs _ ⟨a16, a17, a18, rfl⟩ (fun v hv η hI Kc2 hK2 => ?_) (fun η hI => ?_)
  · obtain ⟨b16, b17, b18, rfl⟩ := hI
    obtain ⟨v1, v2⟩ := hvs v hv
    have rf := repr_flt (roads := roads) (pw := pw) (m := m) (by omega) v1
    refine ⟨v2, rfl, m, roads, pw, v, rfl, by omega, hp, by omega, hg, v1, rfl, ?_⟩
    refine ⟨rfl, m, roads, pw, v, rfl, by omega, hp, by omega, hg, v1, rf, rf, rfl, ?_⟩
    show (if (!PyData.eqv (.str (flt roads pw m v).shown) (.str (flt roads pw m v).shown)) = true then _ else _)
    rw [str_ne, if_neg Bool.false_ne_true]
    refine ⟨v2, rfl, ?_⟩
    show (if (!PyData.eqv (.str v.shown) (.str v.shown)) = true then _ else _)
    rw [str_ne, if_neg Bool.false_ne_true]
    show (if nn (flt roads pw m v) = true then _ else _)
    cases c : nn (flt roads pw m v) with
    | false => rw [if_neg Bool.false_ne_true]; exact hK2 _ ⟨_, _, _, rfl⟩
    | true =>
      rw [if_pos rfl]
      obtain ⟨w, t, rfl, hw⟩ := flt_none hg (nn_none c)
      refine ⟨w, rfl, ?_⟩
      rcases hw with ⟨rfl, hf⟩ | ⟨rfl, hf⟩
      · have ep : paper roads pw m = burnsD (burnt roads pw m) := if_pos hf
        rw [ep] at hK2 ⊢
        refine ⟨_, rfl, rfl, ?_⟩
        show (if (!PyData.eqv (.str "burns") (.str "burns")) = true then _ else Kc2 _)
        rw [str_ne, if_neg Bool.false_ne_true]
        exact hK2 _ ⟨_, _, _, rfl⟩
      · have ep : paper roads pw m = leftD (left (burnt roads pw m) m) := if_neg hf
        rw [ep] at hK2 ⊢
        refine ⟨_, rfl, rfl, ?_⟩
        show (if (!PyData.eqv (.str "lot") (.str "lot")) = true then _ else Kc2 _)
        rw [str_ne, if_neg Bool.false_ne_true]
        exact hK2 _ ⟨_, _, _, rfl⟩
  · obtain ⟨b16, b17, b18, rfl⟩ := hI
    exact restE_ok hm hl hg hp ho hto hrf hK a2 a7 _ a9 a10 a11 a13 a14 _ b16 b17 b18 a19 a20 a21 a22
end K25

set_option Elab.async false
set_option linter.all false
set_option maxRecDepth 100000
namespace K25
open PySem PySem.Spec PyProof.Rows L2 W2 PySem.W

def lawW (Kc bk : En → Prop) : WEnds := { nx := Kc, rt := fun d => d = .bool true, bk := bk, ct := Kc }
set_option maxHeartbeats 4000000 in
/-- powers drawn again at times -/
theorem drawP_ok {roads : List (Int × Int)} {m : Nat} {pw : List Int} (hm : m ≤ 4) (hp : pw.length = m) (h0 : ∀ x ∈ pw, 0 ≤ x ∧ x ≤ 20) {W : WEnds}
    (a2 a7 a8 a9 a10 a11 a12 a13 a14 a15 a16 a17 a18 a19 a20 a21 a22 : W2.Slot)
    (hK : ∀ pw2 : List Int, pw2.length = m → (∀ x ∈ pw2, 0 ≤ x ∧ x ≤ 20) → ∀ a22, W.nx (envL roads m pw2 a12 a2 a7 a8 a9 a10 a11 a13 a14 a15 a16 a17 a18 a19 a20 a21 a22)) :
    drawP W (envL roads m pw a12 a2 a7 a8 a9 a10 a11 a13 a14 a15 a16 a17 a18 a19 a20 a21 a22) := by
  refine ⟨rfl, by decide, fun z z0 z1 => ⟨eqOk_of rfl rfl, ?_⟩⟩
  show (if (z == 0) = true then _ else W.nx _)
  by_cases cz : (z == 0) = true
  · rw [if_pos cz]
    show lcGo _ _ _ _ (pw.map PyData.int) [] _
    refine lc_rel PyData.int (fun _ o => ∃ r, 0 ≤ r ∧ r ≤ 20 ∧ o = some (PyData.int r)) pw [] (fun c hc R hR => ?_) (by show 0 + pw.length ≤ sizeLine; rw [sizeLine_eq]; omega) fun os hos => ?_
    · have := h0 c hc
      exact ⟨rfl, by omega, fun r r0 r1 => hR _ ⟨r, r0, by omega, rfl⟩⟩
    · obtain ⟨pw1, eo, hpl1, hpb1⟩ := ints_out hos
      rw [List.nil_append, eo]
      exact hK pw1 (by omega) hpb1 _
  · rw [if_neg cz]
    exact hK pw hp h0 _
theorem good_t {l : List Int} (h : l.length ≤ 100) : GoodT (lotD l) := fun ds e => by
  have e' : l.map PyData.int = ds := PyData.tuple.inj e
  subst e'
  refine ⟨by rw [List.length_map]; exact h, fun x hx => ?_⟩
  obtain ⟨a, _, rfl⟩ := List.mem_map.mp hx
  exact sh_I a
theorem good_pair {w t : W2.D} (h : GoodW w) (ht : GoodT t) : GoodV (.tuple [w, t]) := fun w' t' e => by
  have e' : [w, t] = [w', t'] := PyData.tuple.inj e
  obtain ⟨e1, e2⟩ := List.cons.inj e'
  obtain ⟨e3, _⟩ := List.cons.inj e2
  subst e1 e3
  exact ⟨h, ht⟩
theorem good_paper {roads : List (Int × Int)} {m : Nat} {pw : List Int} (hm : m ≤ 4) : GoodV (paper roads pw m) := by
  unfold paper
  split
  · exact good_pair good_burns (good_t (Nat.le_trans (bseq_len roads pw m m) (by omega)))
  · refine good_pair good_lot (good_t (Nat.le_trans (List.length_filter_le _ _) ?_))
    rw [cr_len]; omega
set_option maxHeartbeats 4000000 in
theorem restA_ok {roads : List (Int × Int)} {m : Nat} {pw : List Int} (hm : m ≤ 4) (hl : roads.length ≤ 9) (hg : Good ((m : Int) + 1) roads) (hp : pw.length = m) (h0 : ∀ x ∈ pw, 0 ≤ x ∧ x ≤ 20) {Kc bk : En → Prop}
    {a2 a9 a10 a11 a12 a13 a14 a15 a16 a17 a18 a19 a20 a21 a22 : W2.Slot} (hB : ∀ a7, restB { nx := Kc, rt := fun d => d = .bool true, bk := bk, ct := Kc } (envL roads m pw a12 a2 a7 (.fz (paper roads pw m)) a9 a10 a11 a13 a14 a15 a16 a17 a18 a19 a20 a21 a22)) (a8 : W2.Slot) (a7 : W2.Slot) :
    restA { nx := Kc, rt := fun d => d = .bool true, bk := bk, ct := Kc } (envL roads m pw a12 a2 a7 a8 a9 a10 a11 a13 a14 a15 a16 a17 a18 a19 a20 a21 a22) := by
  have hpk := isPk_row (roads := roads) hp fun x hx => (h0 x hx).1
  refine ⟨rfl, m, roads, pw, rfl, by omega, hp, by omega, hg, fun u hu => ?_⟩
  refine ⟨rfl, m, roads, pw, rfl, by omega, hp, by omega, rfl, ?_⟩
  refine ⟨rfl, m, roads, rowPw pw, rfl, tup_row pw (by omega), by omega, by omega, repr_bool _, ?_⟩
  have fin : ∀ b : Bool, decide ((burnt roads pw m).length = m) = b → (!PyData.eqv (.str (PyData.bool (isPk roads m (rowPw pw))).shown) (.str (PyData.bool b).shown)) = false := fun b e => by
    rw [hpk, e, str_ne]
  have gv : GoodV (paper roads pw m) := good_paper hm
  have tail : ∀ (u : W2.D), wf_fault [frD ((m : Int) + 1) roads, rowPw pw, paper roads pw m] (fun d => gIs true d .none fun z => match z with | .bool k => (if k = true then ((.bool false : W2.D) = .bool true) else restB { nx := Kc, rt := fun d => d = .bool true, bk := bk, ct := Kc } (envL roads m pw a12 a2 (.fz u) (.fz (paper roads pw m)) a9 a10 a11 a13 a14 a15 a16 a17 a18 a19 a20 a21 a22)) | _ => False) := fun u => by
    refine ⟨m, roads, pw, _, rfl, by omega, hp, by omega, hg, gv, ?_⟩
    rw [flt_paper hg]
    exact hB _
  rcases hu with ⟨rfl, hf⟩ | ⟨⟨l, rfl⟩, hf⟩
  · refine ⟨repr_bool true, rfl, ?_⟩
    show (if (!PyData.eqv (.str (PyData.bool (isPk roads m (rowPw pw))).shown) (.str (PyData.bool true).shown)) = true then _ else _)
    rw [fin true (decide_eq_true hf), if_neg Bool.false_ne_true]
    have ep : paper roads pw m = burnsD (burnt roads pw m) := if_pos hf
    have tl := tail .none
    rw [ep] at tl ⊢
    exact ⟨_, rfl, rfl, rfl, rfl, tl⟩
  · refine ⟨repr_bool false, rfl, ?_⟩
    show (if (!PyData.eqv (.str (PyData.bool (isPk roads m (rowPw pw))).shown) (.str (PyData.bool false).shown)) = true then _ else _)
    rw [fin false (decide_eq_false hf), if_neg Bool.false_ne_true]
    have ep : paper roads pw m = leftD (left (burnt roads pw m) m) := if_neg hf
    have tl := tail (lotD l)
    rw [ep] at tl ⊢
    exact ⟨_, rfl, rfl, rfl, rfl, tl⟩
set_option maxHeartbeats 4000000 in
theorem restB_ok {roads : List (Int × Int)} {m : Nat} {pw : List Int} (hm : m ≤ 4) (hl : roads.length ≤ 9) (hg : Good ((m : Int) + 1) roads) {Kc bk : En → Prop} {a2 a7 a8 a12 a13 a14 a15 a16 a17 a18 a19 a20 a21 a22 : W2.Slot}
    (hC : ∀ a9 a10 a11, restC { nx := Kc, rt := fun d => d = .bool true, bk := bk, ct := Kc } (envL roads m pw a12 a2 a7 a8 a9 a10 a11 a13 a14 a15 a16 a17 a18 a19 a20 a21 a22)) (a9 a10 a11 : W2.Slot) :
    restB { nx := Kc, rt := fun d => d = .bool true, bk := bk, ct := Kc } (envL roads m pw a12 a2 a7 a8 a9 a10 a11 a13 a14 a15 a16 a17 a18 a19 a20 a21 a22) := by
  refine ⟨rfl, by omega, fun c c0 c1 => ?_⟩
  have c1' : c < (m : Int) + 1 := by omega
  refine ⟨⟨by omega, by omega, by omega, by omega, by omega⟩, rfl, ?_, fun ys hys => ?_⟩
  · show (rangeD 0 (((m : Int) + 1) - 0).toNat).length < 16777216
    unfold rangeD
    rw [List.length_map, List.length_range]
    omega
  · have er : rangeD 0 (((m : Int) + 1) - 0).toNat = (rg (m + 1)).map PyData.int := by rw [Int.sub_zero]; exact rng_rg m
    obtain ⟨t, ht, rfl⟩ := perm_of_map hys _ er
    refine ⟨rfl, by omega, fun j j0 j1 => ?_⟩
    obtain ⟨s, es, hs, hsl⟩ := cutD_map PyData.int t none (some j)
    have hsm : ∀ x ∈ s, 0 ≤ x ∧ x < (m : Int) + 1 := fun x hx => by have := mem_rg.mp (ht.mem_iff.mp (hs x hx)); omega
    refine ⟨⟨by omega, by omega⟩, ?_⟩
    show lcGo _ _ _ _ (rangeD 0 ((m : Int) + 1).toNat) [] _
    rw [rng_rg]
    refine lc_fm PyData.int (fun x => if (!decide (x ∈ s) || x == c) = true then some (.int x) else none) (rg (m + 1)) (fun x hx R hR => ?_) (le_line (by rw [rg_len]; omega)) ?_
    · refine ⟨rfl, (show SeqAt.shaped (.list (W2.cutD (t.map PyData.int) none (some j))) = true by rw [es]; exact shaped_li s), ?_⟩
      rw [es, any_int]
      show (if (!decide (x ∈ s)) = true then (if true = true then R (some (.int x)) else R none) else _)
      cases c1 : (!decide (x ∈ s)) with
      | true => rw [c1, Bool.true_or] at hR; exact hR
      | false =>
        rw [c1, Bool.false_or] at hR
        rw [if_neg Bool.false_ne_true]
        refine ⟨eqOk_of rfl rfl, ?_⟩
        show (if (x == c) = true then R (some (.int x)) else R none)
        cases c2 : (x == c) with
        | false => rw [c2] at hR; exact hR
        | true => rw [c2] at hR; exact hR
    · rw [filterMap_some]
      have eo : wout roads c ((rg (m + 1)).filter fun x => !decide (x ∈ s) || x == c) = rto roads c s := out_to hg (by
          rw [List.mem_filter, mem_rg]
          exact ⟨⟨by omega, by omega⟩, by simp⟩) fun x x0 x1 ne => by
        rw [List.mem_filter, mem_rg, beq_eq_false_iff_ne.mpr ne, Bool.or_false, Bool.not_eq_true', decide_eq_false_iff_not]
        exact ⟨fun z => z.2, fun z => ⟨⟨x0, by omega⟩, z⟩⟩
      have rt : rto roads c s ≤ 9 := Nat.le_trans (List.length_filter_le _ _) hl
      refine ⟨rfl, (m : Int) + 1, roads, c, s, _, rfl, .inl (congrArg PyData.tuple es), by omega, repr_int (by omega), rfl, (m : Int) + 1, roads, c, _, _, rfl, .inr rfl, by omega, repr_int (by have := eo; omega), ?_⟩
      rw [eo]
      refine ⟨rfl, ?_⟩
      show (if (!PyData.eqv (.str (PyData.int (rto roads c s : Nat)).shown) (.str (PyData.int (rto roads c s : Nat)).shown)) = true then _ else _)
      rw [str_ne, if_neg Bool.false_ne_true]
      exact hC _ _ _
end K25

set_option Elab.async false
set_option linter.all false
set_option maxRecDepth 100000
namespace K25
open PySem PySem.Spec PyProof.Rows L2 W2 PySem.W

/-- d can be laid and shown, is k deep, its text n long -/
structure Sm (k n : Nat) (d : W2.D) : Prop where
  lay : d.canLay0 = true
  sho : d.showable = true
  dep : d.depth ≤ k
  len : d.shown.length ≤ n
theorem Sm.mono {k n k' n' : Nat} {d : W2.D} (h : Sm k n d) (hk : k ≤ k') (hn : n ≤ n') : Sm k' n' d := ⟨h.lay, h.sho, Nat.le_trans h.dep hk, Nat.le_trans h.len hn⟩
theorem Sm.repr {k n : Nat} {d : W2.D} (h : Sm k n d) (hk : k ≤ 64 := by decide) (hn : n ≤ 16777216 := by decide) : reprOk d = true := reprOk_of h.lay h.sho (Nat.le_trans h.dep hk) (Nat.le_trans h.len hn)
theorem Sm.sh {k n : Nat} {d : W2.D} (h : Sm k n d) (hk : k ≤ 60 := by decide) : Sh d := ⟨h.lay, Nat.le_trans h.dep hk⟩
theorem sm_all {k n : Nat} : ∀ {ds : List W2.D}, (∀ d ∈ ds, Sm k n d) → PyData.canLayAll0 ds = true ∧ PyData.showableAll ds = true ∧ PyData.depthAll ds ≤ k ∧ piled (PyData.shownAll ds) ≤ ds.length * (n + 2)
  | [], _ => ⟨rfl, rfl, Nat.zero_le _, Nat.zero_le _⟩
  | d :: r, h => by
    obtain ⟨a, b, c, e⟩ := sm_all (ds := r) fun x hx => h x (List.mem_cons_of_mem _ hx)
    have hd := h d List.mem_cons_self
    refine ⟨?_, ?_, ?_, ?_⟩
    · show (d.canLay0 && PyData.canLayAll0 r) = true
      rw [hd.lay, a]; rfl
    · show (d.showable && PyData.showableAll r) = true
      rw [hd.sho, b]; rfl
    · show max d.depth (PyData.depthAll r) ≤ k
      exact Nat.max_le.mpr ⟨hd.dep, c⟩
    · show piled (d.shown :: PyData.shownAll r) ≤ _
      rw [piled_cons, List.length_cons, Nat.succ_mul]
      have := hd.len
      omega
theorem sm_tup {k n : Nat} {ds : List W2.D} (h : ∀ d ∈ ds, Sm k n d) : Sm (k + 1) (3 + ds.length * (n + 2)) (.tuple ds) := by
  obtain ⟨a, b, c, e⟩ := sm_all h
  exact ⟨a, b, Nat.succ_le_succ c, by have := sh_tuple ds; omega⟩
theorem sm_lst {k n : Nat} {ds : List W2.D} (h : ∀ d ∈ ds, Sm k n d) : Sm (k + 1) (3 + ds.length * (n + 2)) (.list ds) := by
  obtain ⟨a, b, c, e⟩ := sm_all h
  exact ⟨a, b, Nat.succ_le_succ c, by have := sh_list ds; omega⟩
theorem sm_int {i : Int} {B : Nat} (h : i.natAbs ≤ B) (hB : B ≤ 1000000 := by decide) : Sm 0 (B + 2) (.int i) := ⟨rfl, show_int (Nat.le_trans h hB), Nat.le_refl _, sh_int h⟩
theorem paper_shape {roads : List (Int × Int)} {pw : List Int} {m : Nat} (hm : m ≤ 4) : ∃ (s : Str) (l : List Int), paper roads pw m = .tuple [.str s, lotD l] ∧ (s = "burns" ∨ s = "lot") ∧ l.length ≤ 4 ∧ ∀ x ∈ l, x ∈ cr m := by
  unfold paper
  split
  · exact ⟨_, _, rfl, .inl rfl, Nat.le_trans (bseq_len roads pw m m) hm, burnt_cr⟩
  · exact ⟨_, _, rfl, .inr rfl, Nat.le_trans (List.length_filter_le _ _) (by rw [cr_len]; exact hm), fun x hx => (mem_left.mp hx).1⟩
theorem sm_odd {m : Nat} (hm : m ≤ 4) {o : W2.D} (h : o ∈ odds ((m : Int) + 1)) : Sm 2 100 o := by
  have hm' : m = 0 ∨ m = 1 ∨ m = 2 ∨ m = 3 ∨ m = 4 := by omega
  unfold odds at h
  rcases hm' with rfl | rfl | rfl | rfl | rfl <;>
  · simp only [List.mem_cons, List.not_mem_nil, or_false] at h
    rcases h with rfl | rfl | rfl | rfl | rfl | rfl | rfl | rfl | rfl | rfl <;>
    exact ⟨by decide +kernel, by decide +kernel, by decide +kernel, by decide +kernel⟩
end K25

set_option Elab.async false
set_option linter.all false
set_option maxRecDepth 100000
namespace K25
open PySem PySem.Spec PyProof.Rows L2 W2 PySem.W

/-- the values that are judged -/
def vals (ps : Str) (pl row part : List Int) (o : W2.D) : List W2.D :=
  ([.tuple [.str ps, lotD pl], .tuple [.str "burns", lotD row], .tuple [.str "lot", lotD part], .tuple [.str "lot", .tuple (part.map PyData.int).reverse], .tuple [.str "burns", lotD part], .tuple [.str "lot", lotD row], .list [.str ps, lotD pl]] ++
   [.tuple [.str "burns", o], .tuple [.str "lot", o], .tuple [.str "burns", .tuple (row.map PyData.int ++ [o])], .tuple [.str "lot", .tuple [o]], .tuple [o, lotD row], .none, .tuple []]) ++
   [.tuple [lotD pl, .str ps], .tuple (W2.cutD [.str ps, lotD pl] none (some 1)), .tuple ([.str ps, lotD pl] ++ [.int 0]), .tuple [.str "burns", .list (row.map PyData.int)], .tuple [.str "lot", .tuple ([.int 0] ++ part.map PyData.int)], .tuple [.str "Lot", lotD part]]
theorem odd_tup {m : Nat} (hm : m ≤ 4) {o : W2.D} (h : o ∈ odds ((m : Int) + 1)) : TupOk o := by
  unfold odds at h
  simp only [List.mem_cons, List.not_mem_nil, or_false] at h
  intro ds e
  rcases h with rfl | rfl | rfl | rfl | rfl | rfl | rfl | rfl | rfl | rfl <;> cases e
  · exact ⟨by decide, fun _ h => by cases h⟩
  · refine ⟨by decide, fun x hx => ?_⟩
    have : x = .int 0 := by simpa using hx
    subst this; exact sh_I 0
theorem odd_t {m : Nat} (hm : m ≤ 4) {o : W2.D} (h : o ∈ odds ((m : Int) + 1)) : GoodT o := by
  unfold odds at h
  simp only [List.mem_cons, List.not_mem_nil, or_false] at h
  intro ds e
  rcases h with rfl | rfl | rfl | rfl | rfl | rfl | rfl | rfl | rfl | rfl <;> cases e
  · exact ⟨by decide, fun _ h => by cases h⟩
  · refine ⟨by decide, fun x hx => ?_⟩
    have : x = .int 0 := by simpa using hx
    subst this; exact sh_I 0
theorem head_ne (x y : Str) (h : x.cps[0]? ≠ y.cps[0]?) : x ≠ y := fun e => h (by rw [e])
def lists : Nat → List (List Int)
  | 0 => [[]]
  | n + 1 => lists n ++ (lists n).flatMap fun l => [(1 : Int), 2, 3, 4].map fun x => x :: l
theorem mem_lists : ∀ (n : Nat) (l : List Int), l.length ≤ n → (∀ x ∈ l, 1 ≤ x ∧ x ≤ 4) → l ∈ lists n
  | 0, l, h, _ => by
    have : l = [] := List.length_eq_zero_iff.mp (by omega)
    subst this; exact List.mem_cons_self
  | n + 1, [], _, _ => List.mem_append.mpr (.inl (mem_lists n [] (Nat.zero_le _) fun _ h => by cases h))
  | n + 1, x :: r, h, hx => by
    rw [List.length_cons] at h
    refine List.mem_append.mpr (.inr (List.mem_flatMap.mpr ⟨r, mem_lists n r (by omega) fun y hy => hx y (List.mem_cons_of_mem _ hy), List.mem_map.mpr ⟨x, ?_, rfl⟩⟩))
    have := hx x List.mem_cons_self
    simp only [List.mem_cons, List.not_mem_nil, or_false]
    omega
theorem lists_ok : (lists 4).all (fun l => (PyData.str (lotD l).shown).canLay0) = true := by decide +kernel
theorem good_lotD {l : List Int} (h : Sm 4 1000 (lotD l)) (hl : l.length ≤ 4) (hx : ∀ x ∈ l, 1 ≤ x ∧ x ≤ 4) : GoodW (lotD l) := by
  have hd : (lotD l).shown.cps[0]? = some 40 := by
    show (tupleText (PyData.shownAll (l.map PyData.int))).cps[0]? = some 40
    unfold tupleText
    show ((("(" : Str).cps ++ _) ++ _)[0]? = some 40
    rw [Array.getElem?_append_left (by rw [Array.size_append]; exact Nat.lt_of_lt_of_le (show 0 < ((("(" : String) : Str)).cps.size by decide) (Nat.le_add_right _ _)), Array.getElem?_append_left (show 0 < ((("(" : String) : Str)).cps.size by decide)]
    rfl
  refine good_w rfl h.repr h.sh (head_ne _ _ (by rw [hd]; decide)) (head_ne _ _ (by rw [hd]; decide)) ?_
  exact shaped_of (List.all_eq_true.mp lists_ok l (mem_lists 4 l hl hx)) (Nat.zero_le _)
theorem vals_ok {m : Nat} (hm : m ≤ 4) {ps : Str} {pl row part : List Int} {o : W2.D} (h1 : ps = "burns" ∨ ps = "lot") (h2 : pl.length ≤ 4) (h3 : ∀ x ∈ pl, x ∈ cr m) (h4 : row.length = m) (h5 : ∀ x ∈ row, x ∈ cr m) (h6 : part.length ≤ 4) (h7 : ∀ x ∈ part, x ∈ cr m) (h8 : o ∈ odds ((m : Int) + 1)) :
    ∀ v ∈ vals ps pl row part o, GoodV v ∧ reprOk v = true := by
  have hI : ∀ l : List Int, (∀ x ∈ l, x ∈ cr m) → ∀ d ∈ l.map PyData.int, Sm 0 12 d := fun l h d hd => by
    obtain ⟨a, ha, rfl⟩ := List.mem_map.mp hd
    have := mem_cr.mp (h a ha)
    exact sm_int (by omega)
  have lot : ∀ l : List Int, (∀ x ∈ l, x ∈ cr m) → l.length ≤ 5 → Sm 4 1000 (lotD l) := fun l h hl => (sm_tup (hI l h)).mono (by decide) (by rw [List.length_map]; omega)
  have so : Sm 2 100 o := sm_odd hm h8
  have go : GoodW o := good_odd hm h8
  have str : ∀ s : Str, s = "burns" ∨ s = "lot" ∨ s = "Lot" → Sm 0 100 (.str s) ∧ GoodW (.str s) := fun s h => by
    rcases h with rfl | rfl | rfl
    · exact ⟨⟨by decide +kernel, by decide +kernel, by decide +kernel, by decide +kernel⟩, good_burns⟩
    · exact ⟨⟨by decide +kernel, by decide +kernel, by decide +kernel, by decide +kernel⟩, good_lot⟩
    · exact ⟨⟨by decide +kernel, by decide +kernel, by decide +kernel, by decide +kernel⟩, good_Lot⟩
  have two : ∀ w t : W2.D, GoodW w → Sm 4 1000 w → Sm 4 1000 t → GoodT t → GoodV (.tuple [w, t]) ∧ reprOk (.tuple [w, t]) = true := fun w t g hw ht gt =>
    ⟨good_pair g gt, (sm_tup (k := 4) (n := 1000) (ds := [w, t]) fun d hd => by
      simp only [List.mem_cons, List.not_mem_nil, or_false] at hd
      rcases hd with rfl | rfl
      · exact hw
      · exact ht).repr (by decide) (by show 3 + 2 * (1000 + 2) ≤ 16777216; decide)⟩
  have str' : ∀ s : Str, s = "burns" ∨ s = "lot" ∨ s = "Lot" → Sm 4 1000 (.str s) := fun s h => (str s h).1.mono (by decide) (by decide)
  have so' : Sm 4 1000 o := so.mono (by decide) (by decide)
  have gtup : ∀ ds : List W2.D, ds.length ≤ 5 → (∀ d ∈ ds, Sm 2 100 d) → Sm 4 1000 (.tuple ds) ∧ GoodT (.tuple ds) := fun ds h hd =>
    ⟨(sm_tup hd).mono (by decide) (by omega), fun es e => by
      have e' : ds = es := PyData.tuple.inj e
      subst e'
      exact ⟨by omega, fun x hx => (hd x hx).sh⟩⟩
  have hI2 : ∀ l : List Int, (∀ x ∈ l, x ∈ cr m) → ∀ d ∈ l.map PyData.int, Sm 2 100 d := fun l h d hd => (hI l h d hd).mono (by decide) (by decide)
  have not2 : ∀ v : W2.D, (∀ w t, v ≠ .tuple [w, t]) → GoodV v := fun v h w t e => absurd e (h w t)
  intro v hv
  unfold vals at hv
  simp only [List.mem_append, List.mem_cons, List.not_mem_nil, or_false] at hv
  have hps : ps = "burns" ∨ ps = "lot" ∨ ps = "Lot" := h1.elim .inl fun h => .inr (.inl h)
  have hz : Sm 2 100 (.int 0) := (sm_int (B := 1) (by decide)).mono (by decide) (by decide)
  rcases hv with ((rfl | rfl | rfl | rfl | rfl | rfl | rfl) | (rfl | rfl | rfl | rfl | rfl | rfl | rfl)) | (rfl | rfl | rfl | rfl | rfl | rfl)
  · exact two _ _ (str _ hps).2 (str' _ hps) (lot _ h3 (by omega)) (good_t (by omega))
  · exact two _ _ good_burns (str' _ (.inl rfl)) (lot _ h5 (by omega)) (good_t (by omega))
  · exact two _ _ good_lot (str' _ (.inr (.inl rfl))) (lot _ h7 (by omega)) (good_t (by omega))
  · have g := gtup (part.map PyData.int).reverse (by rw [List.length_reverse, List.length_map]; omega) fun d hd => hI2 part h7 d (List.mem_reverse.mp hd)
    exact two _ _ good_lot (str' _ (.inr (.inl rfl))) g.1 g.2
  · exact two _ _ good_burns (str' _ (.inl rfl)) (lot _ h7 (by omega)) (good_t (by omega))
  · exact two _ _ good_lot (str' _ (.inr (.inl rfl))) (lot _ h5 (by omega)) (good_t (by omega))
  · refine ⟨not2 _ fun _ _ e => (by cases e), (sm_lst (k := 4) (n := 1000) fun d hd => ?_).repr (by decide) (by show 3 + 2 * (1000 + 2) ≤ 16777216; decide)⟩
    simp only [List.mem_cons, List.not_mem_nil, or_false] at hd
    rcases hd with rfl | rfl
    · exact str' _ hps
    · exact lot _ h3 (by omega)
  · exact two _ _ good_burns (str' _ (.inl rfl)) so' (odd_t hm h8)
  · exact two _ _ good_lot (str' _ (.inr (.inl rfl))) so' (odd_t hm h8)
  · have g := gtup (row.map PyData.int ++ [o]) (by simp; omega) fun d hd => (List.mem_append.mp hd).elim (hI2 row h5 d) fun z => by
      have : d = o := by simpa using z
      subst this; exact so
    exact two _ _ good_burns (str' _ (.inl rfl)) g.1 g.2
  · have g := gtup [o] (by simp) fun d hd => by
      have : d = o := by simpa using hd
      subst this; exact so
    exact two _ _ good_lot (str' _ (.inr (.inl rfl))) g.1 g.2
  · exact two _ _ go so' (lot _ h5 (by omega)) (good_t (by omega))
  · exact ⟨not2 _ fun _ _ e => (by cases e), repr_none⟩
  · exact ⟨not2 _ fun _ _ e => (by cases e), by decide +kernel⟩
  · exact two _ _ (good_lotD (lot _ h3 (by omega)) h2 fun x hx => by have := mem_cr.mp (h3 x hx); omega) (lot _ h3 (by omega)) (str' _ hps) fun ds e => by cases e
  · have e : W2.cutD [.str ps, lotD pl] none (some 1) = [.str ps] := rfl
    rw [e]
    exact ⟨not2 _ fun _ _ e => (by cases e), (gtup [.str ps] (by simp) fun d hd => by
      have : d = .str ps := by simpa using hd
      subst this; exact (str _ hps).1.mono (by decide) (by decide)).1.repr⟩
  · refine ⟨not2 _ fun _ _ e => (by cases e), (sm_tup (k := 4) (n := 1000) fun d hd => ?_).repr (by decide) (by show 3 + 3 * (1000 + 2) ≤ 16777216; decide)⟩
    simp only [List.cons_append, List.nil_append, List.mem_cons, List.not_mem_nil, or_false] at hd
    rcases hd with rfl | rfl | rfl
    · exact str' _ hps
    · exact lot _ h3 (by omega)
    · exact hz.mono (by decide) (by decide)
  · exact two _ _ good_burns (str' _ (.inl rfl)) ((sm_lst (hI row h5)).mono (by decide) (by rw [List.length_map]; omega)) fun ds e => by cases e
  · have g := gtup ([.int 0] ++ part.map PyData.int) (by simp; omega) fun d hd => (List.mem_append.mp hd).elim (fun z => by
      have : d = .int 0 := by simpa using z
      subst this; exact hz) (hI2 part h7 d)
    exact two _ _ good_lot (str' _ (.inr (.inl rfl))) g.1 g.2
  · exact two _ _ good_Lot (str' _ (.inr (.inr rfl))) (lot _ h7 (by omega)) (good_t (by omega))
set_option maxHeartbeats 4000000 in
theorem restC_ok {roads : List (Int × Int)} {m : Nat} {pw : List Int} (hm : m ≤ 4) (hl : roads.length ≤ 9) (hg : Good ((m : Int) + 1) roads) (hp : pw.length = m)
    (hrf : reprOk (frD ((m : Int) + 1) roads) = true) {Kc bk : En → Prop} (hK : ∀ a2 a3 a4 a5 a6 a7 a8 a9 a10 a11 a12 a13 a14 a15 a16 a17 a18 a19 a20 a21 a22, Kc [.un, .src, a2, a3, a4, a5, a6, a7, a8, a9, a10, a11, a12, a13, a14, a15, a16, a17, a18, a19, a20, a21, a22])
    (a2 a7 a9 a10 a11 a12 a13 a14 a15 a16 a17 a18 a19 a20 a21 a22 : W2.Slot) :
    restC { nx := Kc, rt := fun d => d = .bool true, bk := bk, ct := Kc } (envL roads m pw a12 a2 a7 (.fz (paper roads pw m)) a9 a10 a11 a13 a14 a15 a16 a17 a18 a19 a20 a21 a22) := by
  have s0 : (0 : Nat) ≤ sizeLine := Nat.zero_le _
  have s1 : (1 : Nat) ≤ sizeLine := by decide
  have s2 : (2 : Nat) ≤ sizeLine := by decide
  have s7 : (7 : Nat) ≤ sizeLine := by decide
  have sL : ∀ n : Nat, n ≤ 1000 → n ≤ sizeLine := fun n h => le_line (by omega)
  refine ⟨s0, s1, s1, ⟨by decide, by decide⟩, (show 10 ≤ sizeLine by decide), rfl, (fun z => by cases z), (show 10 < 1073741824 by decide), fun o ho => ?_⟩
  have ho' : o ∈ odds ((m : Int) + 1) := ho
  have go := good_odd hm ho'
  -- row, part
  refine ⟨⟨by omega, by omega, by omega, by omega, by omega⟩, rfl, ?_, fun ys hys => ?_⟩
  · rw [rng_cr, List.length_map, cr_len]; omega
  · obtain ⟨row, hrow, rfl⟩ := perm_of_map hys _ (rng_cr m)
    refine ⟨rfl, by omega, fun j j0 j1 => ?_⟩
    obtain ⟨part0, ep, hps, hpl⟩ := cutD_map PyData.int row none (some j)
    refine ⟨(show PyData.canLayAll0 (W2.cutD (row.map PyData.int) none (some j)) = true by rw [ep]; exact lay_ints _), (show sortOk (W2.cutD (row.map PyData.int) none (some j)) = true by rw [ep]; exact sortOk_int _), ?_⟩
    rw [ep, sortD_int]
    obtain ⟨ps, pl, epap, hps2, hpl2, hplc⟩ := paper_shape (roads := roads) (pw := pw) (m := m) hm
    rw [epap]
    have hrl : row.length = m := by rw [hrow.length_eq, cr_len]
    have hsl : (W2.sortI part0).length ≤ 4 := by rw [(W2.sortI_perm part0).length_eq]; omega
    refine ⟨s2, s2, s2, s2, s2, s7, ?_⟩
    refine ⟨s2, s2, s1, sL _ (by simp; omega), s2, s1, s2, s2, s0, s7, sL _ (by simp), ?_⟩
    refine ⟨s1, sL _ (by simp), s2, s1, sL _ (by simp; omega), s2, s2, (show 6 ≤ sizeLine by decide), sL _ (by simp), ?_⟩
    have fin := restD_ok (vs := vals ps pl row (W2.sortI part0) o) hm hl hg hp (sm_odd hm ho').sh (odd_tup hm ho') (vals_ok hm hps2 hpl2 hplc hrl (fun x hx => hrow.mem_iff.mp hx) hsl (fun x hx => hrow.mem_iff.mp (hps x ((W2.sortI_perm part0).mem_iff.mp hx))) ho') hrf (bk := bk) hK a2 a7 a9 a10 a11 (.fz (lotD row)) (.fz (lotD (W2.sortI part0))) a16 a17 a18 a19 a20 a21 a22
    rw [epap] at fin
    exact fin
end K25

set_option Elab.async false
set_option linter.all false
set_option maxRecDepth 100000
namespace K25
open PySem PySem.Spec PyProof.Rows L2 W2 PySem.W

set_option maxHeartbeats 8000000 in
theorem hw_law : wb_law wf_frame wf_out wf_kept wf_paper wf_park wf_fault wf_to wf_fault wf_arePw wf_arePw { nx := fun _ => False, rt := fun d => d = .bool true }
    (lawE ["script", "source", "lap", "frame", "n", "kept", "powers", "lot", "told", "crossing", "some", "others", "odd", "row", "part", "values", "value", "shown", "fault", "k", "is_one", "c", "number"]) := by
  refine ⟨⟨by decide, by decide⟩, ?_⟩
  show forGo _ _ _ ((List.range 4).map fun i : Nat => .int (0 + (i : Int))) _
  refine for_ix _ (fun i η => ∃ a2 a3 a4 a5 a6 a7 a8 a9 a10 a11 a12 a13 a14 a15 a16 a17 a18 a19 a20 a21 a22, η = [.un, .src, a2, a3, a4, a5, a6, a7, a8, a9, a10, a11, a12, a13, a14, a15, a16, a17, a18, a19, a20, a21, a22]) (fun i hi η hI Kc hK => ?_) (fun η hI => ?_) ⟨.un, .un, .un, .un, .un, .un, .un, .un, .un, .un, .un, .un, .un, .un, .un, .un, .un, .un, .un, .un, .un, rfl⟩
  · obtain ⟨a2, a3, a4, a5, a6, a7, a8, a9, a10, a11, a12, a13, a14, a15, a16, a17, a18, a19, a20, a21, a22, rfl⟩ := hI
    obtain ⟨cs, rs, e1, e2, m1, m2, r1, r2⟩ : ∃ cs rs : Int, L2.atI [PyData.int 2, .int 3, .int 4, .int 5] (0 + (i : Int)) = some (.int cs) ∧ L2.atI [PyData.int 4, .int 5, .int 6, .int 7] (0 + (i : Int)) = some (.int rs) ∧ 1 ≤ cs ∧ cs ≤ 5 ∧ 0 ≤ rs ∧ rs ≤ 10 := by
      match i, hi with
      | 0, _ => exact ⟨2, 4, rfl, rfl, by decide, by decide, by decide, by decide⟩
      | 1, _ => exact ⟨3, 5, rfl, rfl, by decide, by decide, by decide, by decide⟩
      | 2, _ => exact ⟨4, 6, rfl, rfl, by decide, by decide, by decide, by decide⟩
      | 3, _ => exact ⟨5, 7, rfl, rfl, by decide, by decide, by decide, by decide⟩
    refine ⟨(show 4 ≤ sizeLine by decide), .int cs, e1, (show 4 ≤ sizeLine by decide), .int rs, e2, rfl, cs, rs, rfl, m1, by omega, r1, r2, fun m roads n1 hl hg => ?_⟩
    have hm : m ≤ 4 := by omega
    have hl9 : roads.length ≤ 9 := by omega
    have hrf : reprOk (frD ((m : Int) + 1) roads) = true := repr_frame (by omega) (by omega) fun p hp => by
      have := hg p hp
      omega
    refine ⟨_, rfl, hrf, rfl, ?_⟩
    -- powers
    refine ⟨⟨by omega, by omega, by omega, by omega⟩, ?_⟩
    show lcGo _ _ _ _ (rangeD 1 ((((m : Int) + 1)) - 1).toNat) [] _
    rw [rng_cr]
    have wle : ∀ c l, wout roads c l ≤ 9 := fun c l => Nat.le_trans (List.length_filter_le _ _) hl9
    refine lc_rel PyData.int (fun _ o => ∃ r, 0 ≤ r ∧ r ≤ 20 ∧ o = some (PyData.int r)) (cr m) [] (fun c hc R hR => ?_) (by rw [cr_len]; show 0 + m ≤ sizeLine; rw [sizeLine_eq]; omega) fun os hos => ?_
    · have := wle c [c]
      exact ⟨(show 1 ≤ sizeLine by decide), rfl, (m : Int) + 1, roads, c, [c], _, rfl, .inl rfl, by omega, rfl, by omega, fun r r0 r1 => hR _ ⟨r, r0, by omega, rfl⟩⟩
    · obtain ⟨pw1, eo, hpl1, hpb1⟩ := ints_out hos
      rw [List.nil_append, eo]
      rw [cr_len] at hpl1
      refine drawP_ok (m := m) (roads := roads) (pw := pw1) hm (by omega) (fun x hx => hpb1 x hx) (.int (0 + (i : Int)) |> W2.Slot.fz) a7 a8 a9 a10 a11 a12 a13 a14 a15 a16 a17 a18 a19 a20 _ a22 fun pw hp hb b22 => ?_
      have hK' : ∀ a2 a3 a4 a5 a6 a7 a8 a9 a10 a11 a12 a13 a14 a15 a16 a17 a18 a19 a20 a21 a22, Kc [.un, .src, a2, a3, a4, a5, a6, a7, a8, a9, a10, a11, a12, a13, a14, a15, a16, a17, a18, a19, a20, a21, a22] := fun _ _ _ _ _ _ _ _ _ _ _ _ _ _ _ _ _ _ _ _ _ => hK _ ⟨_, _, _, _, _, _, _, _, _, _, _, _, _, _, _, _, _, _, _, _, _, rfl⟩
      exact restA_ok hm hl9 hg hp hb (fun c7 => restB_ok hm hl9 hg (fun c9 c10 c11 => restC_ok hm hl9 hg hp hrf hK' _ _ _ _ _ _ _ _ _ _ _ _ _ _ _ _) _ _ _) _ _
  · obtain ⟨a2, a3, a4, a5, a6, a7, a8, a9, a10, a11, a12, a13, a14, a15, a16, a17, a18, a19, a20, a21, a22, rfl⟩ := hI
    refine ⟨(show 2 ≤ sizeLine by decide), (show 2 ≤ sizeLine by decide), (show 2 ≤ sizeLine by decide), (show 3 ≤ sizeLine by decide), (show 2 ≤ sizeLine by decide), (show 2 ≤ sizeLine by decide), rfl, 2, [(0, 1), (1, 2), (2, 0)], [1, 1], rfl, by decide, rfl, by decide, ?_⟩
    have e1 : burnt [(0, 1), (1, 2), (2, 0)] [1, 1] 2 = [] := by decide +kernel
    have e2 : left [] 2 = [1, 2] := by decide +kernel
    have e3 : paper [(0, 1), (1, 2), (2, 0)] [1, 1] 2 = leftD [1, 2] := by
      unfold paper
      rw [e1, e2]
      rfl
    rw [e3]
    refine ⟨(show 2 ≤ sizeLine by decide), (show 2 ≤ sizeLine by decide), by decide +kernel, ?_⟩
    show PyData.bool (PyData.eqv (leftD [1, 2]) (leftD [1, 2])) = .bool true
    have e4 : PyData.eqv (leftD [1, 2]) (leftD [1, 2]) = true := by decide +kernel
    rw [e4]
end K25

set_option Elab.async false
set_option linter.all false
set_option maxRecDepth 100000
namespace K25
open PySem PySem.Spec PyProof.Rows L2 W2
theorem top {P : Program} {w : World} {K : PySem.W.Frag} {h : Heap} {mg : Str → Option Value} {fa : Addr} (X : K.In h) (G : h.Ns mainGlobals mg) (hfa : mg "law" = some (.ref fa)) (Z : Fs K mg) :
    ∃ fd : FuncData, (∀ (s : Shared) (u : Value), BindsTo s fd ⟨[u], []⟩ [("script", u)]) ∧ ∀ base : Heap, K.In base → base.Ns mainGlobals mg → FnG P w K mg base 4 fa fd ["script"] (spLawG K) := by
  have e : Z.f_law.a = fa := by
    have q := Z.f_law.m
    rw [hfa] at q
    cases q
    rfl
  subst e
  refine ⟨Z.f_law.d, fun s u => Z.f_law.bt s [u] rfl, fun base _ _ => ?_⟩
  have Gp : FnG P w K mg base 1 Z.f__law_pick.a Z.f__law_pick.d ["source", "many"] (spS K 1 wfPick) := wk__law_pick Z
  have Gm : FnG P w K mg base 2 Z.f__law_mixed.a Z.f__law_mixed.d ["source", "things"] (spS K 1 wfMixed) := wk__law_mixed Z Gp
  have Gt : FnG P w K mg base 1 Z.f_roads_to.a Z.f_roads_to.d ["frame", "crossing", "lot"] (spW K 3 wf_to) := wk_roads_to Z hw_to
  have Gw : FnG P w K mg base 1 Z.f__law_ways_out.a Z.f__law_ways_out.d ["frame", "crossing", "lot"] (spW K 3 wf_out) := wk__law_ways_out Z hw_out
  have Gb : FnG P w K mg base 2 Z.f_burnt_in_sequence.a Z.f_burnt_in_sequence.d ["frame", "powers"] (spW K 2 wf_burnt) := wk_burnt_in_sequence Z Gt hw_burnt
  have Gi : FnG P w K mg base 1 Z.f__law_is_int.a Z.f__law_is_int.d ["value"] (spW K 1 wf_isI) := wk__law_is_int Z hw_is_int
  have Gh : FnG P w K mg base 1 Z.f_is_whole.a Z.f_is_whole.d ["value"] (spW K 1 wf_isI) := wk_is_whole Z hw_is_whole
  have Gq : FnG P w K mg base 2 Z.f_is_powers.a Z.f_is_powers.d ["n", "value"] (spW K 2 wf_arePw) := wk_is_powers Z Gh hw_isPw
  have Gl : FnG P w K mg base 1 Z.f__law_crossing_lots.a Z.f__law_crossing_lots.d ["n"] (spW K 1 wf_lots) := wk__law_crossing_lots Z hw_lots
  exact wk_law Z (wk__law_source Z) (wk__law_frame Z Gp Gm hw_frame) Gp Gw (wk__law_lot_kept Z Gl Gw hw_kept) (wk_burn_paper Z Gb hw_paper) (wk_is_parking Z Gq Gb hw_park) (wk__law_fault Z Gi Gw hw_fault) Gm Gt (wk__law_of Z Gp fun ds Q hl h => of_lawA hl h) (wk_judge_burn Z Gh Gt hw_judge) (wk__law_are_powers Z Gi hw_arePw) Gq hw_law
end K25
open PySem PySem.W PyProof.Rows
set_option maxHeartbeats 0 in
theorem PySem.Challenge.cw_starpowers_k25_burn_papers_judged_holds : PySem.Challenge.rw_starpowers_k25_burn_papers_judged.Holds := by
  w_on; o_law; k_head; (case hw => w_witness2)
  k_fill
  refine W2.walk_ofG (l := PySem.Challenge.rw_starpowers_k25_burn_papers_judged) (k := 4) (x := "script") rfl rfl ⟨rfl, by decide, by decide⟩ (fun w h Y => PySem.W.kIn_of Y) ?F
  case F =>
    intro w mg fa h KX G hmg
    refine' K25.top KX G hmg ⟨W2.fnF_mk KX G (fun _ _ _ _ _ _ us hl => match us, hl with | [_], _ => rfl) ?a_is_whole ?l_is_whole ?c_is_whole ?k_is_whole, W2.fnF_mk KX G (fun _ _ _ _ _ _ us hl => match us, hl with | [_, _], _ => rfl) ?a_is_powers ?l_is_powers ?c_is_powers ?k_is_powers, W2.fnF_mk KX G (fun _ _ _ _ _ _ us hl => match us, hl with | [_, _, _], _ => rfl) ?a_roads_to ?l_roads_to ?c_roads_to ?k_roads_to, W2.fnF_mk KX G (fun _ _ _ _ _ _ us hl => match us, hl with | [_, _], _ => rfl) ?a_burnt_in_sequence ?l_burnt_in_sequence ?c_burnt_in_sequence ?k_burnt_in_sequence, W2.fnF_mk KX G (fun _ _ _ _ _ _ us hl => match us, hl with | [_, _], _ => rfl) ?a_is_parking ?l_is_parking ?c_is_parking ?k_is_parking, W2.fnF_mk KX G (fun _ _ _ _ _ _ us hl => match us, hl with | [_, _], _ => rfl) ?a_burn_paper ?l_burn_paper ?c_burn_paper ?k_burn_paper, W2.fnF_mk KX G (fun _ _ _ _ _ _ us hl => match us, hl with | [_, _, _], _ => rfl) ?a_judge_burn ?l_judge_burn ?c_judge_burn ?k_judge_burn, W2.fnF_mk KX G (fun _ _ _ _ _ _ us hl => match us, hl with | [_], _ => rfl) ?a__law_source ?l__law_source ?c__law_source ?k__law_source, W2.fnF_mk KX G (fun _ _ _ _ _ _ us hl => match us, hl with | [_, _], _ => rfl) ?a__law_pick ?l__law_pick ?c__law_pick ?k__law_pick, W2.fnF_mk KX G (fun _ _ _ _ _ _ us hl => match us, hl with | [_, _], _ => rfl) ?a__law_of ?l__law_of ?c__law_of ?k__law_of, W2.fnF_mk KX G (fun _ _ _ _ _ _ us hl => match us, hl with | [_, _], _ => rfl) ?a__law_mixed ?l__law_mixed ?c__law_mixed ?k__law_mixed, W2.fnF_mk KX G (fun _ _ _ _ _ _ us hl => match us, hl with | [_, _, _], _ => rfl) ?a__law_frame ?l__law_frame ?c__law_frame ?k__law_frame, W2.fnF_mk KX G (fun _ _ _ _ _ _ us hl => match us, hl with | [_, _, _], _ => rfl) ?a__law_ways_out ?l__law_ways_out ?c__law_ways_out ?k__law_ways_out, W2.fnF_mk KX G (fun _ _ _ _ _ _ us hl => match us, hl with | [_], _ => rfl) ?a__law_crossing_lots ?l__law_crossing_lots ?c__law_crossing_lots ?k__law_crossing_lots, W2.fnF_mk KX G (fun _ _ _ _ _ _ us hl => match us, hl with | [_, _], _ => rfl) ?a__law_lot_kept ?l__law_lot_kept ?c__law_lot_kept ?k__law_lot_kept, W2.fnF_mk KX G (fun _ _ _ _ _ _ us hl => match us, hl with | [_], _ => rfl) ?a__law_is_int ?l__law_is_int ?c__law_is_int ?k__law_is_int, W2.fnF_mk KX G (fun _ _ _ _ _ _ us hl => match us, hl with | [_, _], _ => rfl) ?a__law_are_powers ?l__law_are_powers ?c__law_are_powers ?k__law_are_powers, W2.fnF_mk KX G (fun _ _ _ _ _ _ us hl => match us, hl with | [_, _, _], _ => rfl) ?a__law_fault ?l__law_fault ?c__law_fault ?k__law_fault, W2.fnF_mk KX G (fun _ _ _ _ _ _ us hl => match us, hl with | [_], _ => rfl) ?a_law ?l_law ?c_law ?k_law, PySem.W.mg_none_of KX G ?z_abs, PySem.W.mg_none_of KX G ?z_all, PySem.W.mg_none_of KX G ?z_bool, PySem.W.mg_none_of KX G ?z_enumerate, PySem.W.mg_none_of KX G ?z_int, PySem.W.mg_none_of KX G ?z_isinstance, PySem.W.mg_none_of KX G ?z_len, PySem.W.mg_none_of KX G ?z_list, PySem.W.mg_none_of KX G ?z_max, PySem.W.mg_none_of KX G ?z_min, PySem.W.mg_none_of KX G ?z_range, PySem.W.mg_none_of KX G ?z_repr, PySem.W.mg_none_of KX G ?z_sorted, PySem.W.mg_none_of KX G ?z_str, PySem.W.mg_none_of KX G ?z_tuple⟩
    (case a_is_whole => k_is); (case l_is_whole => k_is); (case c_is_whole => k_is); (case k_is_whole => k_is); (case a_is_powers => k_is); (case l_is_powers => k_is); (case c_is_powers => k_is); (case k_is_powers => k_is); (case a_roads_to => k_is); (case l_roads_to => k_is); (case c_roads_to => k_is); (case k_roads_to => k_is); (case a_burnt_in_sequence => k_is); (case l_burnt_in_sequence => k_is); (case c_burnt_in_sequence => k_is); (case k_burnt_in_sequence => k_is); (case a_is_parking => k_is); (case l_is_parking => k_is); (case c_is_parking => k_is); (case k_is_parking => k_is); (case a_burn_paper => k_is); (case l_burn_paper => k_is); (case c_burn_paper => k_is); (case k_burn_paper => k_is); (case a_judge_burn => k_is); (case l_judge_burn => k_is); (case c_judge_burn => k_is); (case k_judge_burn => k_is); (case a__law_source => k_is); (case l__law_source => k_is); (case c__law_source => k_is); (case k__law_source => k_is); (case a__law_pick => k_is); (case l__law_pick => k_is); (case c__law_pick => k_is); (case k__law_pick => k_is); (case a__law_of => k_is); (case l__law_of => k_is); (case c__law_of => k_is); (case k__law_of => k_is); (case a__law_mixed => k_is); (case l__law_mixed => k_is); (case c__law_mixed => k_is); (case k__law_mixed => k_is); (case a__law_frame => k_is); (case l__law_frame => k_is); (case c__law_frame => k_is); (case k__law_frame => k_is); (case a__law_ways_out => k_is); (case l__law_ways_out => k_is); (case c__law_ways_out => k_is); (case k__law_ways_out => k_is); (case a__law_crossing_lots => k_is); (case l__law_crossing_lots => k_is); (case c__law_crossing_lots => k_is); (case k__law_crossing_lots => k_is); (case a__law_lot_kept => k_is); (case l__law_lot_kept => k_is); (case c__law_lot_kept => k_is); (case k__law_lot_kept => k_is); (case a__law_is_int => k_is); (case l__law_is_int => k_is); (case c__law_is_int => k_is); (case k__law_is_int => k_is); (case a__law_are_powers => k_is); (case l__law_are_powers => k_is); (case c__law_are_powers => k_is); (case k__law_are_powers => k_is); (case a__law_fault => k_is); (case l__law_fault => k_is); (case c__law_fault => k_is); (case k__law_fault => k_is); (case a_law => k_is); (case l_law => k_is); (case c_law => k_is); (case k_law => k_is); (case z_abs => k_is); (case z_all => k_is); (case z_bool => k_is); (case z_enumerate => k_is); (case z_int => k_is); (case z_isinstance => k_is); (case z_len => k_is); (case z_list => k_is); (case z_max => k_is); (case z_min => k_is); (case z_range => k_is); (case z_repr => k_is); (case z_sorted => k_is); (case z_str => k_is); (case z_tuple => k_is)

