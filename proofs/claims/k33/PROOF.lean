import PyProof.Rows.All
import Wide.All
import OpenK.AllK
import Wide.FinOn
import HandS.ForMost
import HandS.TupAny
import HandS.Deep
import HandS.Style
import HandS.Conv
import HandS.TupLen
import HandS.NoneIn
import HandS.Zip
import HandS.More
import KE.SortData
import HandS.RaiseMore
import HandS.Iter
import KE.KDictWalk
import KE.GoesEnum
import HandS.Wide
import HandS.IsInst
import HandS.Star
import HandS.Gcd
import PyProof.Rows.StrDigits
import HandS.TupLe
import KE.KDictDisplayH
import HandS.TupMul
import KE.GoesZip
import KE.GoesMore
import KE.GoesEnumKw
import PyProof.Rows.CallKwBuiltin
import KE.KDictPairs
import KE.KDictKeyed
import PyProof.WalksMore
import PyProof.SumWalkG
import PySem.Challenge.RW_starpowers_k33_whole_points_of_frames
set_option Elab.async false
set_option linter.all false
set_option maxRecDepth 100000
/-! W2A: data over the abstract heap: what a value is as data (Dt), a frame's slots (Slot, Rep), how a heap grows (Ext2). -/
namespace W2
open PySem PySem.Spec PyProof.Rows L2

abbrev D := PyData
def kD : Key → D
  | .inl i => .int i
  | .inr x => .str x

mutual
/-- v is the data d, whose objects all stand in F (what never changes any more) -/
inductive Dt (K : PySem.W.Frag) (F : Hp) : V → D → Prop
  | non : Dt K F .non .none
  | bl (b : Bool) : Dt K F (.bl b) (.bool b)
  | int (i : Int) : Dt K F (.int i) (.int i)
  | str (x : Str) : Dt K F (.str x) (.str x)
  | lst {a : Addr} {xs : List V} {ds : List D} : F a = some (.lst xs) → DtL K F xs ds → Dt K F (.ref a) (.list ds)
  | tup {a : Addr} {xs : List V} {ds : List D} : F a = some (.tup xs) → DtL K F xs ds → Dt K F (.ref a) (.tuple ds)
  | dK {a : Addr} {o : Obj} {kvs : List (Key × V)} {es : List (D × D)} : F a = some (.frz o (.dK kvs)) → DtK K F kvs es → Dt K F (.ref a) (.dict es)
  | dT {a : Addr} {o : Obj} {kvs : List (List Key × V)} {es : List (D × D)} : F a = some (.frz o (.dT kvs)) → DtT K F kvs es → Dt K F (.ref a) (.dict es)
inductive DtL (K : PySem.W.Frag) (F : Hp) : List V → List D → Prop
  | nil : DtL K F [] []
  | cons {v : V} {vs : List V} {d : D} {ds : List D} : Dt K F v d → DtL K F vs ds → DtL K F (v :: vs) (d :: ds)
inductive DtK (K : PySem.W.Frag) (F : Hp) : List (Key × V) → List (D × D) → Prop
  | nil : DtK K F [] []
  | cons {k : Key} {v : V} {r : List (Key × V)} {d : D} {rs : List (D × D)} : Dt K F v d → DtK K F r rs → DtK K F ((k, v) :: r) ((kD k, d) :: rs)
inductive DtT (K : PySem.W.Frag) (F : Hp) : List (List Key × V) → List (D × D) → Prop
  | nil : DtT K F [] []
  | cons {k : List Key} {v : V} {r : List (List Key × V)} {d : D} {rs : List (D × D)} : Dt K F v d → DtT K F r rs → DtT K F ((k, v) :: r) ((.tuple (k.map kD), d) :: rs)
end

theorem Same.seqT {K : PySem.W.Frag} {H H' : Hp} {a : Addr} {xs : List V} (e : Same H H') (h : SqT K H a xs) : SqT K H' a xs := by
  rcases h with (h | ⟨o, h⟩) | h
  · exact .inl (.inl (e _ _ h))
  · exact .inl (.inr ⟨o, e _ _ h⟩)
  · exact .inr h

mutual
theorem Dt.mono {K : PySem.W.Frag} {F F' : Hp} (e : Same F F') : ∀ {v : V} {d : D}, Dt K F v d → Dt K F' v d
  | _, _, .non => .non
  | _, _, .bl b => .bl b
  | _, _, .int i => .int i
  | _, _, .str x => .str x
  | _, _, .lst h hs => .lst (e _ _ h) (DtL.mono e hs)
  | _, _, .tup h hs => .tup (e _ _ h) (DtL.mono e hs)
  | _, _, .dK h hs => .dK (e _ _ h) (DtK.mono e hs)
  | _, _, .dT h hs => .dT (e _ _ h) (DtT.mono e hs)
theorem DtL.mono {K : PySem.W.Frag} {F F' : Hp} (e : Same F F') : ∀ {vs : List V} {ds : List D}, DtL K F vs ds → DtL K F' vs ds
  | _, _, .nil => .nil
  | _, _, .cons h t => .cons (Dt.mono e h) (DtL.mono e t)
theorem DtK.mono {K : PySem.W.Frag} {F F' : Hp} (e : Same F F') : ∀ {vs : List (Key × V)} {ds : List (D × D)}, DtK K F vs ds → DtK K F' vs ds
  | _, _, .nil => .nil
  | _, _, .cons h t => .cons (Dt.mono e h) (DtK.mono e t)
theorem DtT.mono {K : PySem.W.Frag} {F F' : Hp} (e : Same F F') : ∀ {vs : List (List Key × V)} {ds : List (D × D)}, DtT K F vs ds → DtT K F' vs ds
  | _, _, .nil => .nil
  | _, _, .cons h t => .cons (Dt.mono e h) (DtT.mono e t)
end

section
variable {K : PySem.W.Frag} {F : Hp}
theorem DtL.length : ∀ {vs : List V} {ds : List D}, DtL K F vs ds → vs.length = ds.length
  | _, _, .nil => rfl
  | _, _, .cons _ t => congrArg (· + 1) t.length
theorem DtL.get : ∀ {vs : List V} {ds : List D} (i : Nat) {d : D}, DtL K F vs ds → ds[i]? = some d → ∃ v, vs[i]? = some v ∧ Dt K F v d
  | _, _, _, _, .nil, e => by simp at e
  | _, _, 0, _, .cons h _, e => by simp at e; subst e; exact ⟨_, rfl, h⟩
  | _, _, i + 1, _, .cons _ t, e => by
    obtain ⟨v, h1, h2⟩ := t.get i (by simpa using e)
    exact ⟨v, by simpa using h1, h2⟩
theorem DtL.getV : ∀ {vs : List V} {ds : List D} (i : Nat) {v : V}, DtL K F vs ds → vs[i]? = some v → ∃ d, ds[i]? = some d ∧ Dt K F v d
  | _, _, _, _, .nil, e => by simp at e
  | _, _, 0, _, .cons h _, e => by simp at e; subst e; exact ⟨_, rfl, h⟩
  | _, _, i + 1, _, .cons _ t, e => by
    obtain ⟨v, h1, h2⟩ := t.getV i (by simpa using e)
    exact ⟨v, by simpa using h1, h2⟩
theorem DtL.append : ∀ {vs ws : List V} {ds es : List D}, DtL K F vs ds → DtL K F ws es → DtL K F (vs ++ ws) (ds ++ es)
  | _, _, _, _, .nil, s => s
  | _, _, _, _, .cons h t, s => .cons h (t.append s)
theorem DtL.one {v : V} {d : D} (h : Dt K F v d) : DtL K F [v] [d] := .cons h .nil
theorem DtL.take : ∀ {vs : List V} {ds : List D} (n : Nat), DtL K F vs ds → DtL K F (vs.take n) (ds.take n)
  | _, _, 0, _ => .nil
  | _, _, _ + 1, .nil => .nil
  | _, _, n + 1, .cons h t => .cons h (t.take n)
theorem DtL.drop : ∀ {vs : List V} {ds : List D} (n : Nat), DtL K F vs ds → DtL K F (vs.drop n) (ds.drop n)
  | _, _, 0, h => h
  | _, _, _ + 1, .nil => .nil
  | _, _, n + 1, .cons _ t => t.drop n
theorem DtL.set {v : V} {d : D} (h : Dt K F v d) : ∀ {vs : List V} {ds : List D} (n : Nat), DtL K F vs ds → DtL K F (vs.set n v) (ds.set n d)
  | _, _, _, .nil => .nil
  | _, _, 0, .cons _ t => .cons h t
  | _, _, n + 1, .cons k t => .cons k (t.set h n)
theorem DtL.reverse : ∀ {vs : List V} {ds : List D}, DtL K F vs ds → DtL K F vs.reverse ds.reverse
  | _, _, .nil => .nil
  | _, _, .cons h t => by
    rw [List.reverse_cons, List.reverse_cons]
    exact t.reverse.append (.one h)
theorem DtL.of : ∀ {vs : List V} {ds : List D}, vs.length = ds.length → (∀ (i : Nat) v d, vs[i]? = some v → ds[i]? = some d → Dt K F v d) → DtL K F vs ds
  | [], [], _, _ => .nil
  | v :: vs, d :: ds, hl, h => .cons (h 0 v d rfl rfl) (DtL.of (by simpa using hl) fun i v d h1 h2 => h (i + 1) v d (by simpa using h1) (by simpa using h2))
  | [], _ :: _, hl, _ => by simp at hl
  | _ :: _, [], hl, _ => by simp at hl
theorem DtL.intsV : ∀ {vs : List V} {ns : List Int}, DtL K F vs (ns.map PyData.int) → vs = ns.map V.int
  | _, [], h => by cases h; rfl
  | _, n :: ns, h => by
    cases h with
    | cons a t =>
      cases a
      rw [t.intsV]; rfl
theorem DtL.ints : ∀ (ns : List Int), DtL K F (ns.map V.int) (ns.map PyData.int)
  | [] => .nil
  | n :: ns => .cons (.int n) (DtL.ints ns)
theorem Dt.key : ∀ (k : Key), Dt K F (kV k) (kD k)
  | .inl i => .int i
  | .inr x => .str x
theorem DtL.keys : ∀ (ks : List Key), DtL K F (ks.map kV) (ks.map kD)
  | [] => .nil
  | k :: ks => .cons (Dt.key k) (DtL.keys ks)
theorem Dt.keyV {v : V} : ∀ {k : Key}, Dt K F v (kD k) → v = kV k
  | .inl i, h => by cases h; rfl
  | .inr x, h => by cases h; rfl
theorem DtL.keysV : ∀ {vs : List V} {ks : List Key}, DtL K F vs (ks.map kD) → vs = ks.map kV
  | _, [], h => by cases h; rfl
  | _, k :: ks, h => by
    cases h with
    | cons a t => rw [a.keyV, t.keysV]; rfl
end

/-! ### the law's source of numbers: one dict and its list of cells -/
structure SrcAt (H : Hp) (a b : Addr) : Prop where
  ne : a ≠ b
  ex : ∃ (cs : List Int) (l m t : Int), H a = some (.dK [(.inr "cells", .ref b), (.inr "left", .int l), (.inr "mixed", .int m), (.inr "turn", .int t)]) ∧ H b = some (.lst (cs.map V.int)) ∧
    (∀ c ∈ cs, 0 ≤ c) ∧ 0 ≤ l ∧ 0 ≤ m ∧ m < 2147483648 ∧ 0 ≤ t
abbrev Sx := Option (Addr × Addr)
def inSx : Sx → Addr → Prop
  | none, _ => False
  | some (a, b), c => c = a ∨ c = b
def SxOk : Sx → Hp → Prop
  | none, _ => True
  | some (a, b), H => SrcAt H a b
theorem SxOk.notup {sx : Sx} {H : Hp} (h : SxOk sx H) {c : Addr} (hc : inSx sx c) {xs : List V} : H c ≠ some (.tup xs) := by
  cases sx with
  | none => exact hc.elim
  | some p =>
    obtain ⟨a, b⟩ := p
    obtain ⟨_, cs, l, m, t, h1, h2, _⟩ := h
    rcases hc with rfl | rfl
    · rw [h1]; intro z; cases z
    · rw [h2]; intro z; cases z
theorem SxOk.there {sx : Sx} {H : Hp} (h : SxOk sx H) {c : Addr} (hc : inSx sx c) : ∃ o, H c = some o := by
  cases sx with
  | none => exact hc.elim
  | some p =>
    obtain ⟨a, b⟩ := p
    obtain ⟨_, cs, l, m, t, h1, h2, _⟩ := h
    rcases hc with rfl | rfl
    · exact ⟨_, h1⟩
    · exact ⟨_, h2⟩

/-- the heap grows: F is what never changes, H all that is tracked -/
structure Ext2 (sx : Sx) (F H F' H' : Hp) : Prop where
  sF : Same F F'
  sH : ∀ b o, H b = some o → ¬ inSx sx b → H' b = some o
  le : Same F' H'
  fr : ∀ b o, F' b = some o → F b = some o ∨ H b = none ∨ ∃ xs, o = .tup xs
  ok : SxOk sx H'
structure Base (sx : Sx) (F H : Hp) : Prop where
  le : Same F H
  ok : SxOk sx H
  no : ∀ b, inSx sx b → F b = none
section
variable {sx : Sx} {F H F1 H1 F2 H2 : Hp}
theorem Ext2.refl (b : Base sx F H) : Ext2 sx F H F H := ⟨Same.refl F, fun _ _ h _ => h, b.le, fun _ _ h => .inl h, b.ok⟩
theorem Ext2.back (e : Ext2 sx F H F1 H1) {b : Addr} (h : H1 b = none) : H b = none := by
  cases q : H b with
  | none => rfl
  | some o =>
    by_cases hb : inSx sx b
    · obtain ⟨o', ho⟩ := e.ok.there hb
      rw [h] at ho; cases ho
    · rw [e.sH b o q hb] at h; cases h
theorem Ext2.trans (e : Ext2 sx F H F1 H1) (f : Ext2 sx F1 H1 F2 H2) : Ext2 sx F H F2 H2 where
  sF := e.sF.trans f.sF
  sH := fun b o h n => f.sH b o (e.sH b o h n) n
  le := f.le
  fr := fun b o h => by
    rcases f.fr b o h with h | h | h
    · exact e.fr b o h
    · exact .inr (.inl (e.back h))
    · exact .inr (.inr h)
  ok := f.ok
theorem Ext2.base (b : Base sx F H) (e : Ext2 sx F H F1 H1) : Base sx F1 H1 where
  le := e.le
  ok := e.ok
  no := fun c hc => by
    cases q : F1 c with
    | none => rfl
    | some o =>
      rcases e.fr c o q with h | h | ⟨xs, rfl⟩
      · rw [b.no c hc] at h; cases h
      · obtain ⟨o', ho⟩ := b.ok.there hc
        rw [h] at ho; cases ho
      · exact absurd (e.le _ _ q) (e.ok.notup hc)
/-- a new object, frozen at once -/
theorem Ext2.new (b : Base sx F H) {p : Addr} {o : HO} (hp : H p = none) : Ext2 sx F H (upd F p o) (upd H p o) where
  sF := fun c u h => by
    rw [upd_ne]
    · exact h
    · intro e; subst e
      rw [b.le _ _ h] at hp; cases hp
  sH := fun c u h _ => by rw [upd_ne (ne_of_none h hp)]; exact h
  le := fun c u h => by
    by_cases e : c = p
    · subst e; rw [upd_same] at h ⊢; exact h
    · rw [upd_ne e] at h ⊢; exact b.le _ _ h
  fr := fun c u h => by
    by_cases e : c = p
    · subst e; exact .inr (.inl hp)
    · rw [upd_ne e] at h; exact .inl h
  ok := by
    cases sx with
    | none => trivial
    | some q =>
      obtain ⟨a1, b1⟩ := q
      obtain ⟨n, cs, l, m, t, h1, h2, r⟩ := b.ok
      exact ⟨n, cs, l, m, t, by rw [upd_ne (ne_of_none h1 hp)]; exact h1, by rw [upd_ne (ne_of_none h2 hp)]; exact h2, r⟩
/-- a new object, not frozen -/
theorem Ext2.newF (b : Base sx F H) {p : Addr} {o : HO} (hp : H p = none) : Ext2 sx F H F (upd H p o) :=
  let e := Ext2.new (o := o) b hp
  ⟨Same.refl F, e.sH, fun c u h => by rw [upd_ne (ne_of_none (b.le _ _ h) hp)]; exact b.le _ _ h, fun _ _ h => .inl h, e.ok⟩
/-- a call that changes nothing -/
theorem Ext2.pure (b : Base sx F H) (e : Ext2 none F H F1 H1) : Ext2 sx F H F1 H1 where
  sF := e.sF
  sH := fun c o h _ => e.sH c o h (fun z => z)
  le := e.le
  fr := e.fr
  ok := by
    cases sx with
    | none => trivial
    | some q =>
      obtain ⟨a1, b1⟩ := q
      obtain ⟨n, cs, l, m, t, h1, h2, r⟩ := b.ok
      exact ⟨n, cs, l, m, t, e.sH _ _ h1 (fun z => z), e.sH _ _ h2 (fun z => z), r⟩
end

/-! ### a frame's slots -/
inductive Slot where
  | un
  | fz (d : D)
  | ow (d : D)
  | src
abbrev En := List Slot
def OwnAt (K : PySem.W.Frag) (F H : Hp) (a : Addr) : D → Prop
  | .list ds => ∃ xs, H a = some (.lst xs) ∧ DtL K F xs ds
  | .dict es => (∃ kvs, H a = some (.dK kvs) ∧ DtK K F kvs es) ∨ ∃ kvs, H a = some (.dT kvs) ∧ DtT K F kvs es
  | _ => False
theorem OwnAt.there {K : PySem.W.Frag} {F H : Hp} {a : Addr} {d : D} (h : OwnAt K F H a d) : ∃ o, H a = some o := by
  cases d with
  | list ds => exact ⟨_, h.choose_spec.1⟩
  | dict es =>
    rcases h with ⟨kvs, h, _⟩ | ⟨kvs, h, _⟩
    · exact ⟨_, h⟩
    · exact ⟨_, h⟩
  | _ => exact h.elim
theorem OwnAt.mono {K : PySem.W.Frag} {F H F' H' : Hp} {a : Addr} {d : D} (h : OwnAt K F H a d) (e : Same F F') (k : ∀ o, H a = some o → H' a = some o) : OwnAt K F' H' a d := by
  cases d with
  | list ds => obtain ⟨xs, h1, h2⟩ := h; exact ⟨xs, k _ h1, h2.mono e⟩
  | dict es =>
    rcases h with ⟨kvs, h1, h2⟩ | ⟨kvs, h1, h2⟩
    · exact .inl ⟨kvs, k _ h1, h2.mono e⟩
    · exact .inr ⟨kvs, k _ h1, h2.mono e⟩
  | _ => exact h.elim
theorem OwnAt.notup {K : PySem.W.Frag} {F H H' : Hp} {a : Addr} {d : D} (h : OwnAt K F H a d) (k : ∀ o, H a = some o → H' a = some o) {xs : List V} : H' a ≠ some (.tup xs) := by
  cases d with
  | list ds => obtain ⟨ys, h1, h2⟩ := h; rw [k _ h1]; intro z; cases z
  | dict es =>
    rcases h with ⟨kvs, h1, h2⟩ | ⟨kvs, h1, h2⟩
    · rw [k _ h1]; intro z; cases z
    · rw [k _ h1]; intro z; cases z
  | _ => exact h.elim
def SlotOk (K : PySem.W.Frag) (sx : Sx) (H0 F H : Hp) (v : Option V) : Slot → Prop
  | .un => True
  | .fz d => ∃ x, v = some x ∧ Dt K F x d
  | .ow d => ∃ a, v = some (.ref a) ∧ OwnAt K F H a d ∧ F a = none ∧ H0 a = none ∧ ¬ inSx sx a
  | .src => ∃ a b, sx = some (a, b) ∧ v = some (.ref a)
/-- the frame η over the slots σ and the heap H; H0, F0: as they were at the def's entry -/
structure Rep (K : PySem.W.Frag) (sx : Sx) (H0 F0 F : Hp) (σ : L2.St) (H : Hp) (η : En) : Prop where
  base : Base sx F H
  s0 : ∀ b o, H0 b = some o → ¬ inSx sx b → H b = some o
  f0 : Same F0 F
  fr : ∀ b o, F b = some o → F0 b = some o ∨ H0 b = none ∨ ∃ xs, o = .tup xs
  len : η.length = σ.length
  sl : ∀ (i : Nat) (s : Slot) (v : Option V), η[i]? = some s → σ[i]? = some v → SlotOk K sx H0 F H v s
  sep : ∀ (i j : Nat) (d e : D) (a : Addr), η[i]? = some (.ow d) → η[j]? = some (.ow e) → σ[i]? = some (some (.ref a)) → σ[j]? = some (some (.ref a)) → i = j
section
variable {K : PySem.W.Frag} {sx : Sx} {H0 F0 F H F1 H1 : Hp} {σ : L2.St} {η : En}
theorem Rep.ext (r : Rep K sx H0 F0 F σ H η) (e : Ext2 sx F H F1 H1) : Rep K sx H0 F0 F1 σ H1 η where
  base := e.base r.base
  s0 := fun b o h n => e.sH b o (r.s0 b o h n) n
  f0 := r.f0.trans e.sF
  fr := fun b o h => by
    rcases e.fr b o h with h | h | h
    · exact r.fr b o h
    rotate_left
    · exact .inr (.inr h)
    · refine .inr (.inl ?_)
      cases q : H0 b with
      | none => rfl
      | some u =>
        by_cases hb : inSx sx b
        · obtain ⟨o', ho⟩ := r.base.ok.there hb
          rw [h] at ho; cases ho
        · rw [r.s0 b u q hb] at h; cases h
  len := r.len
  sl := fun i s v h1 h2 => by
    have q := r.sl i s v h1 h2
    cases s with
    | un => trivial
    | fz d => obtain ⟨x, hx, hd⟩ := q; exact ⟨x, hx, hd.mono e.sF⟩
    | ow d =>
      obtain ⟨a, hv, ho, hf, h0, hn⟩ := q
      refine ⟨a, hv, ho.mono e.sF fun o z => e.sH a o z hn, ?_, h0, hn⟩
      cases z : F1 a with
      | none => rfl
      | some u =>
        rcases e.fr a u z with y | y | ⟨xs, rfl⟩
        · rw [hf] at y; cases y
        · obtain ⟨u', hu⟩ := ho.there
          rw [y] at hu; cases hu
        · obtain ⟨u', hu⟩ := ho.there
          exact absurd (e.le _ _ z) (ho.notup (fun o z => e.sH a o z hn))
    | src => exact q
  sep := r.sep
/-- what the def hands back is so for its caller -/
theorem Rep.out (r : Rep K sx H0 F0 F σ H η) : Ext2 sx F0 H0 F H := ⟨r.f0, r.s0, r.base.le, r.fr, r.base.ok⟩
end

/-- what can be read now: frozen, or a slot's own -/
def Op (K : PySem.W.Frag) (F : Hp) (σ : L2.St) (η : En) (v : V) (d : D) : Prop :=
  Dt K F v d ∨ ∃ (i : Nat) (a : Addr), η[i]? = some (.ow d) ∧ σ[i]? = some (some (.ref a)) ∧ v = .ref a
/-- what can be read now, by the heap alone -/
def Nw (K : PySem.W.Frag) (F H : Hp) (v : V) (d : D) : Prop := Dt K F v d ∨ ∃ a, v = .ref a ∧ OwnAt K F H a d
section
variable {K : PySem.W.Frag} {sx : Sx} {H0 F0 F H F1 H1 : Hp} {σ : L2.St} {η : En} {v : V} {d : D}
theorem Op.mono (h : Op K F σ η v d) (e : Same F F1) : Op K F1 σ η v d := by
  rcases h with h | h
  · exact .inl (h.mono e)
  · exact .inr h
theorem Op.nw (h : Op K F σ η v d) (r : Rep K sx H0 F0 F σ H η) : Nw K F H v d := by
  rcases h with h | ⟨i, a, h1, h2, h3⟩
  · exact .inl h
  · obtain ⟨a', e, ho, _⟩ := r.sl i _ _ h1 h2
    cases e
    exact .inr ⟨a, h3, ho⟩
theorem Nw.int {i : Int} (h : Nw K F H v (.int i)) : v = .int i := by
  rcases h with h | ⟨a, _, h⟩
  · cases h; rfl
  · exact h.elim
theorem Nw.bool {i : Bool} (h : Nw K F H v (.bool i)) : v = .bl i := by
  rcases h with h | ⟨a, _, h⟩
  · cases h; rfl
  · exact h.elim
theorem Nw.str {i : Str} (h : Nw K F H v (.str i)) : v = .str i := by
  rcases h with h | ⟨a, _, h⟩
  · cases h; rfl
  · exact h.elim
theorem Nw.none (h : Nw K F H v .none) : v = .non := by
  rcases h with h | ⟨a, _, h⟩
  · cases h; rfl
  · exact h.elim
theorem Nw.list {ds : List D} (h : Nw K F H v (.list ds)) (le : Same F H) : ∃ a xs, v = .ref a ∧ H a = some (.lst xs) ∧ DtL K F xs ds := by
  rcases h with h | ⟨a, e, h⟩
  · cases h with
    | lst h1 h2 => exact ⟨_, _, rfl, le _ _ h1, h2⟩
  · obtain ⟨xs, h1, h2⟩ := h
    exact ⟨a, xs, e, h1, h2⟩
theorem Nw.tuple {ds : List D} (h : Nw K F H v (.tuple ds)) : ∃ a xs, v = .ref a ∧ F a = some (.tup xs) ∧ DtL K F xs ds := by
  rcases h with h | ⟨a, e, h⟩
  · cases h with
    | tup h1 h2 => exact ⟨_, _, rfl, h1, h2⟩
  · exact h.elim
theorem Nw.tupleH {ds : List D} (h : Nw K F H v (.tuple ds)) (le : Same F H) : ∃ a xs, v = .ref a ∧ SqT K H a xs ∧ DtL K F xs ds := by
  obtain ⟨a, xs, e, h1, h2⟩ := h.tuple
  exact ⟨a, xs, e, SqT.of (le _ _ h1), h2⟩
theorem Nw.dict {es : List (D × D)} (h : Nw K F H v (.dict es)) (le : Same F H) : ∃ a, v = .ref a ∧ ((∃ kvs, Rd H a (.dK kvs) ∧ DtK K F kvs es) ∨ ∃ kvs, Rd H a (.dT kvs) ∧ DtT K F kvs es) := by
  rcases h with h | ⟨a, e, h⟩
  · cases h with
    | dK h1 h2 => exact ⟨_, rfl, .inl ⟨_, .inr ⟨_, le _ _ h1⟩, h2⟩⟩
    | dT h1 h2 => exact ⟨_, rfl, .inr ⟨_, .inr ⟨_, le _ _ h1⟩, h2⟩⟩
  · rcases h with ⟨kvs, h1, h2⟩ | ⟨kvs, h1, h2⟩
    · exact ⟨a, e, .inl ⟨kvs, .inl h1, h2⟩⟩
    · exact ⟨a, e, .inr ⟨kvs, .inl h1, h2⟩⟩
end
end W2

set_option Elab.async false
set_option linter.all false
set_option maxRecDepth 100000
/-! W2B: readings over data: expressions. -/
namespace W2
open PySem PySem.Spec PyProof.Rows L2

abbrev WE := En → (D → Prop) → Prop
abbrev WT := En → (Bool → Prop) → Prop
abbrev WA := En → (List D → Prop) → Prop
/-- what follows a value -/
def Cont (K : PySem.W.Frag) (sx : Sx) (F H : Hp) (Q : D → Prop) (R : VK) : Prop := ∀ d v F' H', Q d → Ext2 sx F H F' H' → Dt K F' v d → R v H'
/-- what follows a new list -/
def ContL (K : PySem.W.Frag) (sx : Sx) (F H : Hp) (Q : D → Prop) (R : VK) : Prop :=
  ∀ ds xs a F' H', Q (.list ds) → Ext2 sx F H F' H' → H' a = some (.lst xs) → DtL K F' xs ds → F' a = none → H a = none → R (.ref a) H'
/-- what follows a new dict -/
def ContD (K : PySem.W.Frag) (sx : Sx) (F H : Hp) (Q : D → Prop) (R : VK) : Prop :=
  ∀ es a F' H', Q (.dict es) → Ext2 sx F H F' H' → OwnAt K F' H' a (.dict es) → F' a = none → H a = none → R (.ref a) H'
def ContO (K : PySem.W.Frag) (sx : Sx) (F H : Hp) (σ : L2.St) (η : En) (Q : D → Prop) (R : VK) : Prop := ∀ d v F' H', Q d → Ext2 sx F H F' H' → Op K F' σ η v d → R v H'
def ContT (sx : Sx) (F H : Hp) (Q : Bool → Prop) (R : Bool → Hp → Prop) : Prop := ∀ b F' H', Q b → Ext2 sx F H F' H' → R b H'
abbrev OpL (K : PySem.W.Frag) (F : Hp) (σ : L2.St) (η : En) : List V → List D → Prop := Paired (Op K F σ η)
def ContA (K : PySem.W.Frag) (sx : Sx) (F H : Hp) (σ : L2.St) (η : En) (Q : List D → Prop) (R : List V → Hp → Prop) : Prop := ∀ ds vs F' H', Q ds → Ext2 sx F H F' H' → OpL K F' σ η vs ds → R vs H'
def ContB (K : PySem.W.Frag) (sx : Sx) (F H : Hp) (Q : List D → Prop) (R : List V → Hp → Prop) : Prop := ∀ ds vs F' H', Q ds → Ext2 sx F H F' H' → DtL K F' vs ds → R vs H'

def SemE (K : PySem.W.Frag) (t : TE) (w : WE) : Prop := ∀ {sx : Sx} {H0 F0 F : Hp} {σ : L2.St} {H : Hp} {η : En} {Q : D → Prop} {R : VK}, Rep K sx H0 F0 F σ H η → w η Q → Cont K sx F H Q R → t σ H R
def SemL (K : PySem.W.Frag) (t : TE) (w : WE) : Prop := ∀ {sx : Sx} {H0 F0 F : Hp} {σ : L2.St} {H : Hp} {η : En} {Q : D → Prop} {R : VK}, Rep K sx H0 F0 F σ H η → w η Q → ContL K sx F H Q R → t σ H R
def SemD (K : PySem.W.Frag) (t : TE) (w : WE) : Prop := ∀ {sx : Sx} {H0 F0 F : Hp} {σ : L2.St} {H : Hp} {η : En} {Q : D → Prop} {R : VK}, Rep K sx H0 F0 F σ H η → w η Q → ContD K sx F H Q R → t σ H R
def SemO (K : PySem.W.Frag) (t : TE) (w : WE) : Prop := ∀ {sx : Sx} {H0 F0 F : Hp} {σ : L2.St} {H : Hp} {η : En} {Q : D → Prop} {R : VK}, Rep K sx H0 F0 F σ H η → w η Q → ContO K sx F H σ η Q R → t σ H R
def SemT (K : PySem.W.Frag) (t : TT) (w : WT) : Prop := ∀ {sx : Sx} {H0 F0 F : Hp} {σ : L2.St} {H : Hp} {η : En} {Q : Bool → Prop} {R : Bool → Hp → Prop}, Rep K sx H0 F0 F σ H η → w η Q → ContT sx F H Q R → t σ H R
def SemA (K : PySem.W.Frag) (t : TA) (w : WA) : Prop := ∀ {sx : Sx} {H0 F0 F : Hp} {σ : L2.St} {H : Hp} {η : En} {Q : List D → Prop} {R : List V → Hp → Prop}, Rep K sx H0 F0 F σ H η → w η Q → ContA K sx F H σ η Q R → t σ H R
def SemB (K : PySem.W.Frag) (t : TA) (w : WA) : Prop := ∀ {sx : Sx} {H0 F0 F : Hp} {σ : L2.St} {H : Hp} {η : En} {Q : List D → Prop} {R : List V → Hp → Prop}, Rep K sx H0 F0 F σ H η → w η Q → ContB K sx F H Q R → t σ H R

/-- an expression: what it gives is frozen -/
structure DE (X : Cx) (e : Expr) (t : TE) (w : WE) : Prop where
  pe : PE X e t
  sem : SemE X.K t w
/-- .. a new list, of its own -/
structure DL (X : Cx) (e : Expr) (t : TE) (w : WE) : Prop where
  pe : PE X e t
  sem : SemL X.K t w
/-- .. a new dict -/
structure DD (X : Cx) (e : Expr) (t : TE) (w : WE) : Prop where
  pe : PE X e t
  sem : SemD X.K t w
/-- .. an operand -/
structure DO (X : Cx) (e : Expr) (t : TE) (w : WE) : Prop where
  pe : PE X e t
  sem : SemO X.K t w
structure DTs (X : Cx) (e : Expr) (t : TT) (w : WT) : Prop where
  pt : PT X e t
  sem : SemT X.K t w
structure DW (X : Cx) (e : Expr) (t : TT) (w : WT) : Prop where
  pw : PW X e t
  sem : SemT X.K t w
/-- operands in a row -/
structure DA (X : Cx) (es : List Expr) (t : TA) (w : WA) : Prop where
  pa : PA X es t
  sem : SemA X.K t w
/-- frozen values in a row -/
structure DB (X : Cx) (es : List Expr) (t : TA) (w : WA) : Prop where
  pa : PA X es t
  sem : SemB X.K t w

section
variable {K : PySem.W.Frag} {sx : Sx} {F H F1 H1 : Hp} {σ : L2.St} {η : En} {Q : D → Prop} {R : VK}
theorem Cont.ext (k : Cont K sx F H Q R) (e : Ext2 sx F H F1 H1) : Cont K sx F1 H1 Q R := fun d v F' H' q e' h => k d v F' H' q (e.trans e') h
theorem ContL.ext (k : ContL K sx F H Q R) (e : Ext2 sx F H F1 H1) : ContL K sx F1 H1 Q R := fun ds xs a F' H' q e' h1 h2 h3 h4 => k ds xs a F' H' q (e.trans e') h1 h2 h3 (e.back h4)
theorem ContD.ext (k : ContD K sx F H Q R) (e : Ext2 sx F H F1 H1) : ContD K sx F1 H1 Q R := fun es a F' H' q e' h1 h2 h3 => k es a F' H' q (e.trans e') h1 h2 (e.back h3)
theorem ContT.ext {Q : Bool → Prop} {R : Bool → Hp → Prop} (k : ContT sx F H Q R) (e : Ext2 sx F H F1 H1) : ContT sx F1 H1 Q R := fun b F' H' q e' => k b F' H' q (e.trans e')
theorem Cont.now (k : Cont K sx F H Q R) (b : Base sx F H) {d : D} {v : V} (q : Q d) (h : Dt K F v d) : R v H := k d v F H q (.refl b) h
/-- a new list is frozen at once -/
theorem Cont.list (k : Cont K sx F H Q R) : ContL K sx F H Q R := fun ds xs a F' H' q e h1 h2 h3 h4 => by
  refine k (.list ds) (.ref a) (upd F' a (.lst xs)) H' q ⟨?_, e.sH, ?_, ?_, e.ok⟩ (.lst upd_same (h2.mono ?_))
  · intro b o h
    rw [upd_ne (ne_of_none (e.sF _ _ h) h3)]
    exact e.sF _ _ h
  · intro b o h
    by_cases hb : b = a
    · subst hb; rw [upd_same] at h; cases h; exact h1
    · rw [upd_ne hb] at h; exact e.le _ _ h
  · intro b o h
    by_cases hb : b = a
    · subst hb; exact .inr (.inl h4)
    · rw [upd_ne hb] at h; exact e.fr _ _ h
  · intro b o h
    rw [upd_ne (ne_of_none h h3)]
    exact h
/-- a new list laid -/
theorem ContL.new (k : ContL K sx F H Q R) (b : Base sx F H) {ds : List D} {xs : List V} (q : Q (.list ds)) (h : DtL K F xs ds) : ∀ p, H p = none → R (.ref p) (upd H p (.lst xs)) := fun p hp => by
  refine k ds xs p F (upd H p (.lst xs)) q (.newF b hp) upd_same h ?_ hp
  cases z : F p with
  | none => rfl
  | some o => rw [b.le _ _ z] at hp; cases hp
/-- a new tuple laid -/
theorem Cont.tup (k : Cont K sx F H Q R) (b : Base sx F H) {ds : List D} {xs : List V} (q : Q (.tuple ds)) (h : DtL K F xs ds) : ∀ p, H p = none → R (.ref p) (upd H p (.tup xs)) := fun p hp => by
  have e := Ext2.new (o := .tup xs) b hp
  exact k (.tuple ds) (.ref p) _ _ q e (.tup upd_same (h.mono e.sF))
theorem OpL.mono {vs : List V} {ds : List D} (h : OpL K F σ η vs ds) (e : Same F F1) : OpL K F1 σ η vs ds := Paired.mapP h fun _ _ z => z.mono e
end

section
variable {X : Cx} {e : Expr} {t : TE} {w : WE}
theorem SemE.op {K : PySem.W.Frag} (h : SemE K t w) : SemO K t w := fun r hw k => h r hw fun d v F' H' q e z => k d v F' H' q e (.inl z)
theorem DE.op (h : DE X e t w) : DO X e t w := ⟨h.pe, SemE.op h.sem⟩
theorem SemL.fr {K : PySem.W.Frag} (h : SemL K t w) : SemE K t w := fun r hw k => h r hw k.list
theorem DL.fr (h : DL X e t w) : DE X e t w := ⟨h.pe, SemL.fr h.sem⟩
theorem DL.op (h : DL X e t w) : DO X e t w := h.fr.op
end

/-! ### names, constants -/
def wN (i : Nat) : WE := fun η Q => match η[i]? with
  | some (.fz d) => Q d
  | _ => False
def wB (i : Nat) : WE := fun η Q => match η[i]? with
  | some (.fz d) => Q d
  | some (.ow d) => Q d
  | _ => False
def wC (d : D) : WE := fun _ Q => Q d
theorem Rep.val {K : PySem.W.Frag} {sx : Sx} {H0 F0 F H : Hp} {σ : L2.St} {η : En} (r : Rep K sx H0 F0 F σ H η) {i : Nat} {s : Slot} (h : η[i]? = some s) : ∃ v, σ[i]? = some v ∧ SlotOk K sx H0 F H v s := by
  have hi : i < η.length := (List.getElem?_eq_some_iff.mp h).1
  have hi' : i < σ.length := by rw [← r.len]; exact hi
  exact ⟨σ[i], List.getElem?_eq_getElem hi', r.sl i s _ h (List.getElem?_eq_getElem hi')⟩
theorem sem_name {K : PySem.W.Frag} {i : Nat} : SemE K (tVar i) (wN i) := fun {sx H0 F0 F σ H η Q R} r hw k => by
  unfold wN at hw
  split at hw
  · rename_i d h
    obtain ⟨v, h1, x, rfl, h2⟩ := r.val h
    exact ⟨x, h1, k.now r.base hw h2⟩
  · exact hw.elim
theorem sem_nameB {K : PySem.W.Frag} {i : Nat} : SemO K (tVar i) (wB i) := fun {sx H0 F0 F σ H η Q R} r hw k => by
  unfold wB at hw
  split at hw
  · rename_i d h
    obtain ⟨v, h1, x, rfl, h2⟩ := r.val h
    exact ⟨x, h1, k d x F H hw (.refl r.base) (.inl h2)⟩
  · rename_i d h
    obtain ⟨v, h1, a, rfl, h2⟩ := r.val h
    exact ⟨.ref a, h1, k d (.ref a) F H hw (.refl r.base) (.inr ⟨i, a, h, h1, rfl⟩)⟩
  · exact hw.elim
section
variable {X : Cx}
theorem de_name (i : Nat) {x : Str} {pos : Pos} (hN : X.N[i]? = some x := by rfl) (hv : Vis X.env.scope x := by first | exact Or.inl rfl | exact Or.inr (Or.inl rfl) | exact Or.inr (Or.inr rfl)) (hd : (x == ("__debug__" : Str)) = false := by decide)
    (hcd : (x == ("__classdict__" : Str)) = false := by decide) : DE X (.Name x pos) (tVar i) (wN i) := ⟨pe_var hN hv hd hcd, sem_name⟩
theorem do_name (i : Nat) {x : Str} {pos : Pos} (hN : X.N[i]? = some x := by rfl) (hv : Vis X.env.scope x := by first | exact Or.inl rfl | exact Or.inr (Or.inl rfl) | exact Or.inr (Or.inr rfl)) (hd : (x == ("__debug__" : Str)) = false := by decide)
    (hcd : (x == ("__classdict__" : Str)) = false := by decide) : DO X (.Name x pos) (tVar i) (wB i) := ⟨pe_var hN hv hd hcd, sem_nameB⟩
theorem sem_const {K : PySem.W.Frag} {v : V} {d : D} (h : ∀ F, Dt K F v d) : SemE K (tC v) (wC d) := fun r hw k => k.now r.base hw (h _)
theorem de_int {i j pos} : DE X (.Constant (.int i) j pos) (tC (.int i)) (wC (.int i)) := ⟨pe_int, sem_const fun _ => .int i⟩
theorem de_bl {b j pos} : DE X (.Constant (.bool b) j pos) (tC (.bl b)) (wC (.bool b)) := ⟨pe_bl, sem_const fun _ => .bl b⟩
theorem de_non {j pos} : DE X (.Constant .none j pos) (tC .non) (wC .none) := ⟨pe_non, sem_const fun _ => .non⟩
theorem de_str {x j pos} : DE X (.Constant (.str x) j pos) (tC (.str x)) (wC (.str x)) := ⟨pe_str, sem_const fun _ => .str x⟩
theorem de_glob {x : Str} {v : V} {u : Value} {d : D} {pos : Pos} (hg : Gl X x) (hm : X.mg x = some u) (r : RelV v u) (h : ∀ F, Dt X.K F v d) (hd : (x == ("__debug__" : Str)) = false := by decide) : DE X (.Name x pos) (tC v) (wC d) := ⟨pe_glob hg hm r hd, sem_const h⟩
end

/-! ### operators -/
/-- a two-place reading over data -/
def RSem (K : PySem.W.Frag) (r : R2) (g : D → D → (D → Prop) → Prop) : Prop :=
  ∀ {sx : Sx} {F H : Hp} {x y : V} {dx dy : D} {Q : D → Prop} {R : VK}, Base sx F H → Nw K F H x dx → Nw K F H y dy → g dx dy Q → Cont K sx F H Q R → r x y H R
def RSemL (K : PySem.W.Frag) (r : R2) (g : D → D → (D → Prop) → Prop) : Prop :=
  ∀ {sx : Sx} {F H : Hp} {x y : V} {dx dy : D} {Q : D → Prop} {R : VK}, Base sx F H → Nw K F H x dx → Nw K F H y dy → g dx dy Q → ContL K sx F H Q R → r x y H R
def w2 (g : D → D → (D → Prop) → Prop) (wa wb : WE) : WE := fun η Q => wa η fun x => wb η fun y => g x y Q
theorem sem_op {K : PySem.W.Frag} {r : R2} {g : D → D → (D → Prop) → Prop} {ta tb : TE} {wa wb : WE} (hs : RSem K r g) (ha : SemO K ta wa) (hb : SemO K tb wb) : SemE K (tOp r ta tb) (w2 g wa wb) := fun {sx H0 F0 F σ H η Q R} rp hw k =>
  ha rp hw fun dx x F1 H1 q1 e1 o1 => hb (rp.ext e1) q1 fun dy y F2 H2 q2 e2 o2 =>
    let r2 := (rp.ext e1).ext e2
    hs r2.base ((o1.mono e2.sF).nw r2) (o2.nw r2) q2 (k.ext (e1.trans e2))
theorem sem_opL {K : PySem.W.Frag} {r : R2} {g : D → D → (D → Prop) → Prop} {ta tb : TE} {wa wb : WE} (hs : RSemL K r g) (ha : SemO K ta wa) (hb : SemO K tb wb) : SemL K (tOp r ta tb) (w2 g wa wb) := fun {sx H0 F0 F σ H η Q R} rp hw k =>
  ha rp hw fun dx x F1 H1 q1 e1 o1 => hb (rp.ext e1) q1 fun dy y F2 H2 q2 e2 o2 =>
    let r2 := (rp.ext e1).ext e2
    hs r2.base ((o1.mono e2.sF).nw r2) (o2.nw r2) q2 (k.ext (e1.trans e2))
section
variable {X : Cx} {a b : Expr} {ta tb : TE} {wa wb : WE} {r : R2} {g : D → D → (D → Prop) → Prop}
theorem de_op {op : Operator} {pos : Pos} (ho : OpR X (binaryOp op) r) (hs : RSem X.K r g) (ha : DO X a ta wa) (hb : DO X b tb wb) : DE X (.BinOp a op b pos) (tOp r ta tb) (w2 g wa wb) := ⟨pe_op ho ha.pe hb.pe, sem_op hs ha.sem hb.sem⟩
theorem dl_op {op : Operator} {pos : Pos} (ho : OpR X (binaryOp op) r) (hs : RSemL X.K r g) (ha : DO X a ta wa) (hb : DO X b tb wb) : DL X (.BinOp a op b pos) (tOp r ta tb) (w2 g wa wb) := ⟨pe_op ho ha.pe hb.pe, sem_opL hs ha.sem hb.sem⟩
theorem de_cmp {op : CmpOp} {pos : Pos} (ho : OpR X (compareOp op) r) (hs : RSem X.K r g) (hm : behindInMarks op b = false) (ha : DO X a ta wa) (hb : DO X b tb wb) : DE X (.Compare a [op] [b] pos) (tOp r ta tb) (w2 g wa wb) := ⟨pe_cmpR ho ha.pe hb.pe hm, sem_op hs ha.sem hb.sem⟩
end

/-- + -/
def gAdd : D → D → (D → Prop) → Prop
  | .int i, .int j, Q => Q (.int (i + j))
  | .str x, .str y, Q => x.length + y.length ≤ sizeLine ∧ Q (.str (x ++ y))
  | .list x, .list y, Q => x.length + y.length ≤ sizeLine ∧ Q (.list (x ++ y))
  | .tuple x, .tuple y, Q => x.length + y.length ≤ sizeLine ∧ Q (.tuple (x ++ y))
  | _, _, _ => False
def rAddA (K : PySem.W.Frag) : R2 := fun x y H Q => rI0 (fun i j => .int (i + j)) x y H Q ∨ (∃ i j, x = .str i ∧ y = .str j ∧ i.length + j.length ≤ sizeLine ∧ Q (.str (i ++ j)) H) ∨ rCat x y H Q ∨ rCatA K x y H Q
theorem op_addA {X : Cx} : OpR X (binaryOp .Add) (rAddA X.K) := OpR.or op_add (OpR.or op_add_str (OpR.or op_cat op_catA))
theorem DtL.nil_iff {K : PySem.W.Frag} {F : Hp} {vs : List V} {ds : List D} (h : DtL K F vs ds) : vs = [] ↔ ds = [] := by
  cases h with
  | nil => simp
  | cons _ _ => simp
theorem catL {K : PySem.W.Frag} {sx : Sx} {F H : Hp} {x y : V} {as bs : List D} {Q : D → Prop} {R : VK} (b : Base sx F H) (hx : Nw K F H x (.list as)) (hy : Nw K F H y (.list bs)) (hl : as.length + bs.length ≤ sizeLine) (q : Q (.list (as ++ bs))) (k : ContL K sx F H Q R) : rCat x y H R := by
  obtain ⟨a, xs, rfl, h1, h2⟩ := hx.list b.le
  obtain ⟨c, ys, rfl, h3, h4⟩ := hy.list b.le
  exact ⟨a, c, xs, ys, rfl, rfl, h1, h3, by rw [h2.length, h4.length]; exact hl, k.new b q (h2.append h4)⟩
theorem rs_add {K : PySem.W.Frag} : RSem K (rAddA K) gAdd := fun {sx F H x y dx dy Q R} b hx hy hg k => by
  cases dx <;> cases dy <;> first | exact hg.elim | skip
  · cases hx.int; cases hy.int
    exact .inl ⟨_, _, rfl, rfl, k.now b hg (.int _)⟩
  · cases hx.str; cases hy.str
    exact .inr (.inl ⟨_, _, rfl, rfl, hg.1, k.now b hg.2 (.str _)⟩)
  · exact .inr (.inr (.inl (catL b hx hy hg.1 hg.2 k.list)))
  · obtain ⟨a, xs, rfl, h1, h2⟩ := hx.tupleH b.le
    obtain ⟨c, ys, rfl, h3, h4⟩ := hy.tupleH b.le
    refine .inr (.inr (.inr ⟨a, c, xs, ys, rfl, rfl, h1, h3, by rw [h2.length, h4.length]; exact hg.1, fun e => ?_, fun e e' => ?_, fun _ _ => k.tup b hg.2 (h2.append h4)⟩))
    · have e1 := h2.nil_iff.mp e
      subst e1
      obtain ⟨c', ys', z, h5, h6⟩ := hy.tuple
      cases z
      exact k.now b hg.2 (.tup h5 h6)
    · have e1 := h4.nil_iff.mp e'
      subst e1
      obtain ⟨c', ys', z, h5, h6⟩ := hx.tuple
      cases z
      have q := hg.2
      rw [List.append_nil] at q
      exact k.now b q (.tup h5 h6)
def gCat : D → D → (D → Prop) → Prop
  | .list x, .list y, Q => x.length + y.length ≤ sizeLine ∧ Q (.list (x ++ y))
  | _, _, _ => False
theorem rs_cat {K : PySem.W.Frag} : RSemL K rCat gCat := fun {sx F H x y dx dy Q R} b hx hy hg k => by
  cases dx <;> cases dy <;> first | exact hg.elim | skip
  exact catL b hx hy hg.1 hg.2 k
/-- ints -/
def gI (g : Int → Int → D) : D → D → (D → Prop) → Prop
  | .int i, .int j, Q => Q (g i j)
  | _, _, _ => False
def gIC (C : Int → Int → Prop) (g : Int → Int → D) : D → D → (D → Prop) → Prop
  | .int i, .int j, Q => C i j ∧ Q (g i j)
  | _, _, _ => False
theorem rs_I {K : PySem.W.Frag} {g : Int → Int → V} {g' : Int → Int → D} (h : ∀ F i j, Dt K F (g i j) (g' i j)) : RSem K (rI0 g) (gI g') := fun {sx F H x y dx dy Q R} b hx hy hg k => by
  cases dx <;> cases dy <;> first | exact hg.elim | skip
  cases hx.int; cases hy.int
  exact ⟨_, _, rfl, rfl, k.now b hg (h _ _ _)⟩
theorem rs_IC {K : PySem.W.Frag} {C : Int → Int → Prop} {g : Int → Int → V} {g' : Int → Int → D} (h : ∀ F i j, Dt K F (g i j) (g' i j)) : RSem K (rI C g) (gIC C g') := fun {sx F H x y dx dy Q R} b hx hy hg k => by
  cases dx <;> cases dy <;> first | exact hg.elim | skip
  cases hx.int; cases hy.int
  exact ⟨_, _, rfl, rfl, hg.1, k.now b hg.2 (h _ _ _)⟩
end W2

set_option Elab.async false
set_option linter.all false
set_option maxRecDepth 100000
/-! W2C: readings over data: tests, displays, subscripts, calls of built-ins. -/
namespace W2
open PySem PySem.Spec PyProof.Rows L2

/-! ### data as the library's own (Dp) -/
mutual
theorem Dt.dp {K : PySem.W.Frag} {F H : Hp} (le : Same F H) : ∀ {v : V} {d : D}, Dt K F v d → d.canLay0 = true → Dp K H v d
  | _, _, .non, _ => .non
  | _, _, .bl b, _ => .bl b
  | _, _, .int i, _ => .int i
  | _, _, .str x, _ => .str x
  | _, _, .lst h hs, c => .lst (SqL.of (le _ _ h)) (DtL.dp le hs (by simpa [PyData.canLay0] using c))
  | _, _, .tup h hs, c => .tup (SqT.of (le _ _ h)) (DtL.dp le hs (by simpa [PyData.canLay0] using c))
  | _, _, .dK _ _, c => by simp [PyData.canLay0] at c
  | _, _, .dT _ _, c => by simp [PyData.canLay0] at c
theorem DtL.dp {K : PySem.W.Frag} {F H : Hp} (le : Same F H) : ∀ {vs : List V} {ds : List D}, DtL K F vs ds → PyData.canLayAll0 ds = true → DpAll K H vs ds
  | _, _, .nil, _ => .nil
  | _, _, .cons (d := d) (ds := ds) h t, c => by
    have c' : PyData.canLay0 d = true ∧ PyData.canLayAll0 ds = true := by simpa [PyData.canLayAll0] using c
    exact .cons (Dt.dp le h c'.1) (DtL.dp le t c'.2)
end
theorem Nw.dp {K : PySem.W.Frag} {F H : Hp} {v : V} {d : D} (h : Nw K F H v d) (le : Same F H) (c : d.canLay0 = true) : Dp K H v d := by
  rcases h with h | ⟨a, rfl, h⟩
  · exact h.dp le c
  · cases d with
    | list ds =>
      obtain ⟨xs, h1, h2⟩ := h
      exact .lst (SqL.of h1) (h2.dp le (by simpa [PyData.canLay0] using c))
    | dict es => simp [PyData.canLay0] at c
    | _ => exact h.elim

/-! ### == and != -/
def eqOk : D → D → Bool
  | .str _, .str _ => true
  | x, y => SeqAt.shaped x && SeqAt.shaped y
def gEq (x y : D) (Q : D → Prop) : Prop := eqOk x y = true ∧ Q (.bool (PyData.eqv x y))
def gNe (x y : D) (Q : D → Prop) : Prop := eqOk x y = true ∧ Q (.bool (!PyData.eqv x y))
def rEqA (K : PySem.W.Frag) : R2 := fun x y H Q => rEq x y H Q ∨ rEqD K x y H Q
def rNeA (K : PySem.W.Frag) : R2 := fun x y H Q => rNe x y H Q ∨ rNeD K x y H Q
theorem op_eqA {X : Cx} (hu : X.A.units + 64 < cLine) : OpR X (compareOp .Eq) (rEqA X.K) := OpR.or op_eq (op_eqD hu)
theorem op_neA {X : Cx} (hu : X.A.units + 64 < cLine) : OpR X (compareOp .NotEq) (rNeA X.K) := OpR.or op_ne (op_neD hu)
theorem eqOk_cases {x y : D} (h : eqOk x y = true) : (∃ a b, x = .str a ∧ y = .str b) ∨ (SeqAt.shaped x = true ∧ SeqAt.shaped y = true) := by
  unfold eqOk at h
  split at h
  · exact .inl ⟨_, _, rfl, rfl⟩
  · exact .inr (by simpa using h)
theorem str_eqv (a b : Str) : decide (V.str a = V.str b) = PyData.eqv (.str a) (.str b) := by
  show _ = (a == b)
  by_cases e : a = b
  · subst e; simp
  · rw [decide_eq_false (fun z => e (V.str.inj z))]
    exact (beq_eq_false_iff_ne.mpr e).symm
theorem rs_eq {K : PySem.W.Frag} : RSem K (rEqA K) gEq := fun {sx F H x y dx dy Q R} b hx hy hg k => by
  rcases eqOk_cases hg.1 with ⟨a, c, rfl, rfl⟩ | ⟨h1, h2⟩
  · cases hx.str; cases hy.str
    refine .inl ⟨rfl, ?_⟩
    rw [str_eqv]
    exact k.now b hg.2 (.bl _)
  · exact .inr ⟨dx, dy, hx.dp b.le (SeqAt.canLay_of_shaped h1), hy.dp b.le (SeqAt.canLay_of_shaped h2), h1, h2, k.now b hg.2 (.bl _)⟩
theorem rs_ne {K : PySem.W.Frag} : RSem K (rNeA K) gNe := fun {sx F H x y dx dy Q R} b hx hy hg k => by
  rcases eqOk_cases hg.1 with ⟨a, c, rfl, rfl⟩ | ⟨h1, h2⟩
  · cases hx.str; cases hy.str
    refine .inl ⟨rfl, ?_⟩
    rw [str_eqv]
    exact k.now b hg.2 (.bl _)
  · exact .inr ⟨dx, dy, hx.dp b.le (SeqAt.canLay_of_shaped h1), hy.dp b.le (SeqAt.canLay_of_shaped h2), h1, h2, k.now b hg.2 (.bl _)⟩
/-- in, not in: a list or a tuple of data -/
def gIn (neg : Bool) : D → D → (D → Prop) → Prop
  | x, .list ds, Q => SeqAt.shaped x = true ∧ SeqAt.shaped (.list ds) = true ∧ Q (.bool (if neg then !ds.any (fun z => PyData.eqv z x) else ds.any fun z => PyData.eqv z x))
  | _, _, _ => False
theorem rs_inL {K : PySem.W.Frag} : RSem K (rInD K) (gIn false) := fun {sx F H x y dx dy Q R} b hx hy hg k => by
  cases dy <;> first | exact hg.elim | skip
  obtain ⟨h1, h2, q⟩ := hg
  exact ⟨_, _, hx.dp b.le (SeqAt.canLay_of_shaped h1), hy.dp b.le (SeqAt.canLay_of_shaped h2), h1, h2, k.now b q (.bl _)⟩
theorem rs_notInL {K : PySem.W.Frag} : RSem K (rNotInD K) (gIn true) := fun {sx F H x y dx dy Q R} b hx hy hg k => by
  cases dy <;> first | exact hg.elim | skip
  obtain ⟨h1, h2, q⟩ := hg
  exact ⟨_, _, hx.dp b.le (SeqAt.canLay_of_shaped h1), hy.dp b.le (SeqAt.canLay_of_shaped h2), h1, h2, k.now b q (.bl _)⟩
/-- is None, is not None -/
def gIsN (neg : Bool) : D → D → (D → Prop) → Prop
  | .none, .none, Q => Q (.bool (!neg))
  | _, .none, Q => Q (.bool neg)
  | _, _, _ => False
theorem Nw.notNon {K : PySem.W.Frag} {F H : Hp} {v : V} {d : D} (h : Nw K F H v d) (hd : d ≠ .none) : v ≠ .non := by
  rintro rfl
  rcases h with h | ⟨a, e, _⟩
  · cases h; exact hd rfl
  · cases e
theorem rs_isN {K : PySem.W.Frag} : RSem K (fun x y H Q => y = .non ∧ Q (.bl (decide (x = .non))) H) (gIsN false) := fun {sx F H x y dx dy Q R} b hx hy hg k => by
  cases dy <;> first | (cases dx <;> exact hg.elim) | skip
  cases hy.none
  refine ⟨rfl, ?_⟩
  by_cases e : dx = .none
  · subst e
    cases hx.none
    exact k.now b (show Q (.bool true) from hg) (.bl _)
  · rw [decide_eq_false (hx.notNon e)]
    refine k.now b (d := .bool false) ?_ (.bl _)
    cases dx <;> first | exact absurd rfl e | exact hg
theorem rs_notN {K : PySem.W.Frag} : RSem K (fun x y H Q => y = .non ∧ Q (.bl (!decide (x = .non))) H) (gIsN true) := fun {sx F H x y dx dy Q R} b hx hy hg k => by
  cases dy <;> first | (cases dx <;> exact hg.elim) | skip
  cases hy.none
  refine ⟨rfl, ?_⟩
  by_cases e : dx = .none
  · subst e
    cases hx.none
    exact k.now b (show Q (.bool false) from hg) (.bl _)
  · rw [decide_eq_false (hx.notNon e)]
    refine k.now b (d := .bool true) ?_ (.bl _)
    cases dx <;> first | exact absurd rfl e | exact hg
/-- is True, is False -/
def gIsB (neg : Bool) : D → D → (D → Prop) → Prop
  | .bool a, .bool c, Q => Q (.bool (if neg then !decide (a = c) else decide (a = c)))
  | _, _, _ => False
theorem rs_isB {K : PySem.W.Frag} : RSem K rIsB (gIsB false) := fun {sx F H x y dx dy Q R} b hx hy hg k => by
  cases dx <;> cases dy <;> first | exact hg.elim | skip
  cases hx.bool; cases hy.bool
  exact ⟨_, _, rfl, rfl, k.now b hg (.bl _)⟩
theorem rs_notB {K : PySem.W.Frag} : RSem K rNotB (gIsB true) := fun {sx F H x y dx dy Q R} b hx hy hg k => by
  cases dx <;> cases dy <;> first | exact hg.elim | skip
  cases hx.bool; cases hy.bool
  exact ⟨_, _, rfl, rfl, k.now b hg (.bl _)⟩

/-! ### one-place operators -/
def w1 (g : D → (D → Prop) → Prop) (wa : WE) : WE := fun η Q => wa η fun x => g x Q
def gNeg : D → (D → Prop) → Prop
  | .int i, Q => Q (.int (-i))
  | _, _ => False
theorem de_neg {X : Cx} {a : Expr} {ta : TE} {wa : WE} {pos : Pos} (ha : DO X a ta wa) : DE X (.UnaryOp .USub a pos) (tUn (rU fun i => .int (-i)) ta) (w1 gNeg wa) :=
  ⟨pe_un un_neg ha.pe, fun {sx H0 F0 F σ H η Q R} r hw k => ha.sem r hw fun d v F1 H1 q e o => by
    cases d <;> first | exact q.elim | skip
    cases (o.nw (r.ext e)).int
    exact ⟨_, rfl, (k.ext e).now (r.ext e).base q (.int _)⟩⟩

/-! ### truth -/
def truth : D → Option Bool
  | .none => some false
  | .bool b => some b
  | .int i => some (i != 0)
  | .list ds => some (!ds.isEmpty)
  | .tuple ds => some (!ds.isEmpty)
  | _ => none
theorem truth_ok {K : PySem.W.Frag} {sx : Sx} {F H : Hp} {v : V} {d : D} {k : Bool} (b : Base sx F H) (h : Nw K F H v d) (e : truth d = some k) : TruV K v H k := by
  cases d with
  | none => cases h.none; cases e; rfl
  | bool c => cases h.bool; cases e; rfl
  | int i => cases h.int; cases e; rfl
  | str x => cases e
  | list ds =>
    obtain ⟨a, xs, rfl, h1, h2⟩ := h.list b.le
    cases e
    refine .inl ⟨xs, SqL.of h1, ?_⟩
    cases h2 <;> rfl
  | tuple ds =>
    obtain ⟨a, xs, rfl, h1, h2⟩ := h.tupleH b.le
    cases e
    refine .inr (.inl ⟨xs, h1, ?_⟩)
    cases h2 <;> rfl
  | dict es => cases e
/-- an expression as a test -/
def wTr (wa : WE) : WT := fun η Q => wa η fun d => ∃ k, truth d = some k ∧ Q k
def wTrB (wa : WE) : WT := fun η Q => wa η fun d => match d with
  | .bool k => Q k
  | _ => False
section
variable {X : Cx} {a b c : Expr} {ta tb tc : TE} {wa wb wc : WE} {tA tB' tC' : TT} {vA vB vC : WT} {pos : Pos} {rest : List Expr}
theorem dt_truth (ha : DO X a ta wa) (he : ∀ whole, isTrue a X.env whole = (do let v ← whole; standAt a.pos; holding [v] (truthy v)) := by intro _; rfl) : DTs X a (fun σ H Q => ta σ H fun x H' => ∃ k, TruV X.K x H' k ∧ Q k H') (wTr wa) :=
  ⟨pt_truth ha.pe he, fun {sx H0 F0 F σ H η Q R} r hw k => ha.sem r hw fun d v F1 H1 ⟨j, hj, q⟩ e o => ⟨j, truth_ok (r.ext e).base (o.nw (r.ext e)) hj, k j F1 H1 q e⟩⟩
theorem sem_testB {K : PySem.W.Frag} (ha : SemE K ta wa) : SemT K (fun σ H Q => ta σ H fun x H' => ∃ k, x = .bl k ∧ Q k H') (wTrB wa) := fun {sx H0 F0 F σ H η Q R} r hw k => ha r hw fun d v F1 H1 q e o => by
  cases d <;> first | exact q.elim | skip
  cases o
  exact ⟨_, rfl, k _ F1 H1 q e⟩
theorem dt_cmp {op : CmpOp} {r : R2} {g : D → D → (D → Prop) → Prop} (ho : OpR X (compareOp op) r) (hs : RSem X.K r g) (hm : behindInMarks op b = false) (ha : DO X a ta wa) (hb : DO X b tb wb) : DTs X (.Compare a [op] [b] pos) (tTest (tOp r ta tb)) (wTrB (w2 g wa wb)) :=
  ⟨pt_cmpR ho ha.pe hb.pe hm, sem_testB (sem_op hs ha.sem hb.sem)⟩
/-- a op b op' c -/
def wChain (g g' : D → D → (D → Prop) → Prop) (wa wb wc : WE) : WE := fun η Q => wa η fun x => wb η fun y => g x y fun z => match z with
  | .bool true => wc η fun w => g' y w Q
  | .bool false => Q (.bool false)
  | _ => False
theorem sem_chain {K : PySem.W.Frag} {r r' : R2} {g g' : D → D → (D → Prop) → Prop} (hs : RSem K r g) (hs' : RSem K r' g') (ha : SemO K ta wa) (hb : SemO K tb wb) (hc : SemO K tc wc) : SemE K (tChain r r' ta tb tc) (wChain g g' wa wb wc) := fun {sx H0 F0 F σ H η Q R} rp hw k =>
  ha rp hw fun dx x F1 H1 q1 e1 o1 => hb (rp.ext e1) q1 fun dy y F2 H2 q2 e2 o2 =>
    let r2 := (rp.ext e1).ext e2
    hs r2.base ((o1.mono e2.sF).nw r2) (o2.nw r2) q2 fun dz z F3 H3 q3 e3 o3 => by
      cases dz <;> first | exact q3.elim | skip
      rename_i bb
      cases o3
      refine ⟨bb, rfl, ?_⟩
      cases bb with
      | false =>
        rw [if_neg Bool.false_ne_true]
        exact (k.ext ((e1.trans e2).trans e3)).now (r2.ext e3).base q3 (.bl _)
      | true =>
        rw [if_pos rfl]
        refine hc (r2.ext e3) q3 fun dw w F4 H4 q4 e4 o4 => ?_
        have r4 := (r2.ext e3).ext e4
        exact hs' r4.base ((o2.mono (e3.sF.trans e4.sF)).nw r4) (o4.nw r4) q4 (k.ext (((e1.trans e2).trans e3).trans e4))
theorem de_chain {op op' : CmpOp} {r r' : R2} {g g' : D → D → (D → Prop) → Prop} (ho : OpR X (compareOp op) r) (hs : RSem X.K r g) (ho' : OpR X (compareOp op') r') (hs' : RSem X.K r' g') (ha : DO X a ta wa) (hb : DO X b tb wb) (hc : DO X c tc wc)
    (hm : lastMarks [op, op'] [b, c] = false := by with_unfolding_all rfl) : DE X (.Compare a [op, op'] [b, c] pos) (tChain r r' ta tb tc) (wChain g g' wa wb wc) := ⟨pe_chain ho ho' ha.pe hb.pe hc.pe hm, sem_chain hs hs' ha.sem hb.sem hc.sem⟩
theorem dt_chain {op op' : CmpOp} {r r' : R2} {g g' : D → D → (D → Prop) → Prop} (ho : OpR X (compareOp op) r) (hs : RSem X.K r g) (ho' : OpR X (compareOp op') r') (hs' : RSem X.K r' g') (ha : DO X a ta wa) (hb : DO X b tb wb) (hc : DO X c tc wc)
    (hm : lastMarks [op, op'] [b, c] = false := by with_unfolding_all rfl) : DTs X (.Compare a [op, op'] [b, c] pos) (tTest (tChain r r' ta tb tc)) (wTrB (wChain g g' wa wb wc)) := ⟨pt_chain ho ho' ha.pe hb.pe hc.pe hm, sem_testB (sem_chain hs hs' ha.sem hb.sem hc.sem)⟩
def wNotT (vA : WT) : WT := fun η Q => vA η fun b => Q (!b)
theorem dt_not (ha : DTs X a tA vA) : DTs X (.UnaryOp .Not a pos) (tNot tA) (wNotT vA) := ⟨pt_not ha.pt, fun r hw k => ha.sem r hw fun b F1 H1 q e => k (!b) F1 H1 q e⟩
def wAndT (vA vB : WT) : WT := fun η Q => vA η fun b => if b = true then vB η Q else Q false
def wOrT (vA vB : WT) : WT := fun η Q => vA η fun b => if b = true then Q true else vB η Q
theorem dw_and1 (ha : DTs X a tA vA) : DW X (.BoolOp .And [a] pos) tA vA := ⟨pw_and1 ha.pt, ha.sem⟩
theorem dw_or1 (ha : DTs X a tA vA) : DW X (.BoolOp .Or [a] pos) tA vA := ⟨pw_or1 ha.pt, ha.sem⟩
theorem dw_and (ha : DTs X a tA vA) (hb : DW X (.BoolOp .And (b :: rest) pos) tB' vB) : DW X (.BoolOp .And (a :: b :: rest) pos) (tAnd tA tB') (wAndT vA vB) :=
  ⟨pw_and ha.pt hb.pw, fun r hw k => ha.sem r hw fun b F1 H1 q e => by
    cases b with
    | true => rw [if_pos rfl] at q ⊢; exact hb.sem (r.ext e) q (k.ext e)
    | false => rw [if_neg Bool.false_ne_true] at q ⊢; exact k false F1 H1 q e⟩
theorem dw_or (ha : DTs X a tA vA) (hb : DW X (.BoolOp .Or (b :: rest) pos) tB' vB) : DW X (.BoolOp .Or (a :: b :: rest) pos) (tOr tA tB') (wOrT vA vB) :=
  ⟨pw_or ha.pt hb.pw, fun r hw k => ha.sem r hw fun b F1 H1 q e => by
    cases b with
    | true => rw [if_pos rfl] at q ⊢; exact k true F1 H1 q e
    | false => rw [if_neg Bool.false_ne_true] at q ⊢; exact hb.sem (r.ext e) q (k.ext e)⟩
theorem DW.t (h : DW X a tA vA) : DTs X a tA vA := ⟨h.pw.pt, h.sem⟩
def wIfE (vA : WT) (wa wb : WE) : WE := fun η Q => vA η fun b => if b = true then wa η Q else wb η Q
theorem de_ifExp (hc : DTs X c tA vA) (ha : DE X a ta wa) (hb : DE X b tb wb) : DE X (.IfExp c a b pos) (tIf tA ta tb) (wIfE vA wa wb) :=
  ⟨pe_ifExp hc.pt ha.pe hb.pe, fun r hw k => hc.sem r hw fun b F1 H1 q e => by
    cases b with
    | true => rw [if_pos rfl] at q ⊢; exact ha.sem (r.ext e) q (k.ext e)
    | false => rw [if_neg Bool.false_ne_true] at q ⊢; exact hb.sem (r.ext e) q (k.ext e)⟩
/-- and, or, not as values: all but the last are True or False -/
def wAndV (wa wb : WE) : WE := fun η Q => wa η fun d => match d with
  | .bool true => wb η Q
  | .bool false => Q (.bool false)
  | _ => False
def wOrV (wa wb : WE) : WE := fun η Q => wa η fun d => match d with
  | .bool true => Q (.bool true)
  | .bool false => wb η Q
  | _ => False
theorem de_one {op} (h : DE X a ta wa) : DE X (.BoolOp op [a] pos) ta wa := ⟨pe_one h.pe, h.sem⟩
theorem de_and (ha : DE X a ta wa) (hb : DE X (.BoolOp .And (b :: rest) pos) tb wb) : DE X (.BoolOp .And (a :: b :: rest) pos) (tAndV ta tb) (wAndV wa wb) :=
  ⟨pe_and ha.pe hb.pe, fun r hw k => ha.sem r hw fun d v F1 H1 q e h => by
    cases d <;> first | exact q.elim | skip
    rename_i bb
    cases h
    refine ⟨bb, rfl, ?_⟩
    cases bb with
    | true => rw [if_pos rfl]; exact hb.sem (r.ext e) q (k.ext e)
    | false => rw [if_neg Bool.false_ne_true]; exact (k.ext e).now (r.ext e).base q (.bl _)⟩
theorem de_or (ha : DE X a ta wa) (hb : DE X (.BoolOp .Or (b :: rest) pos) tb wb) : DE X (.BoolOp .Or (a :: b :: rest) pos) (tOrV ta tb) (wOrV wa wb) :=
  ⟨pe_or ha.pe hb.pe, fun r hw k => ha.sem r hw fun d v F1 H1 q e h => by
    cases d <;> first | exact q.elim | skip
    rename_i bb
    cases h
    refine ⟨bb, rfl, ?_⟩
    cases bb with
    | true => rw [if_pos rfl]; exact (k.ext e).now (r.ext e).base q (.bl _)
    | false => rw [if_neg Bool.false_ne_true]; exact hb.sem (r.ext e) q (k.ext e)⟩
def gNotB : D → (D → Prop) → Prop
  | .bool b, Q => Q (.bool (!b))
  | _, _ => False
theorem de_not (ha : DE X a ta wa) : DE X (.UnaryOp .Not a pos) (tNotV ta) (w1 gNotB wa) :=
  ⟨pe_not ha.pe, fun r hw k => ha.sem r hw fun d v F1 H1 q e h => by
    cases d <;> first | exact q.elim | skip
    cases h
    exact ⟨_, rfl, (k.ext e).now (r.ext e).base q (.bl _)⟩⟩
end

/-! ### rows of values -/
def wNil : WA := fun _ Q => Q []
def wCons (wa : WE) (wr : WA) : WA := fun η Q => wa η fun d => wr η fun ds => Q (d :: ds)
section
variable {X : Cx} {e : Expr} {es : List Expr} {te : TE} {t : TA} {we : WE} {w : WA} {pos : Pos}
theorem da_nil : DA X [] tNil wNil := ⟨pa_nil, fun r hw k => k [] [] _ _ hw (.refl r.base) .nil⟩
theorem da_cons (h : DO X e te we) (hr : DA X es t w) (hs : starEach (e :: es) X.env = (false, eval e X.env) :: starEach es X.env := by rfl) : DA X (e :: es) (tCons te t) (wCons we w) :=
  ⟨pa_cons h.pe hr.pa hs, fun r hw k => h.sem r hw fun d v F1 H1 q e o => hr.sem (r.ext e) q fun ds vs F2 H2 q2 e2 o2 => k _ _ F2 H2 q2 (e.trans e2) (.cons (o.mono e2.sF) o2)⟩
theorem db_nil : DB X [] tNil wNil := ⟨pa_nil, fun r hw k => k [] [] _ _ hw (.refl r.base) .nil⟩
theorem db_cons (h : DE X e te we) (hr : DB X es t w) (hs : starEach (e :: es) X.env = (false, eval e X.env) :: starEach es X.env := by rfl) : DB X (e :: es) (tCons te t) (wCons we w) :=
  ⟨pa_cons h.pe hr.pa hs, fun r hw k => h.sem r hw fun d v F1 H1 q e o => hr.sem (r.ext e) q fun ds vs F2 H2 q2 e2 o2 => k _ _ F2 H2 q2 (e.trans e2) (.cons (o.mono e2.sF) o2)⟩
/-- displays -/
def wTup (w : WA) : WE := fun η Q => w η fun ds => ds.length ≤ sizeLine ∧ Q (.tuple ds)
def wLst (w : WA) : WE := fun η Q => w η fun ds => ds.length ≤ sizeLine ∧ Q (.list ds)
theorem de_tup {x1} (h : DB X es t w) : DE X (.Tuple es x1 pos) (tTup t) (wTup w) :=
  ⟨pe_tup h.pa, fun r hw k => h.sem r hw fun ds vs F1 H1 q e o => ⟨by rw [o.length]; exact q.1, (k.ext e).tup (r.ext e).base q.2 o⟩⟩
theorem dl_lst (h : DB X es t w) : DL X (.List es pos) (tLst t) (wLst w) :=
  ⟨pe_lst h.pa, fun r hw k => h.sem r hw fun ds vs F1 H1 q e o => ⟨by rw [o.length]; exact q.1, (k.ext e).new (r.ext e).base q.2 o⟩⟩
end
end W2

set_option Elab.async false
set_option linter.all false
set_option maxRecDepth 100000
/-! W2D: targets, what is walked, comprehensions. -/
namespace W2
open PySem PySem.Spec PyProof.Rows L2

/-! ### slots set, forgotten -/
def wipeE (η : En) : List Nat → En
  | [] => η
  | v :: vs => (wipeE η vs).set v .un
section
variable {K : PySem.W.Frag} {sx : Sx} {H0 F0 F H F1 H1 : Hp} {σ : L2.St} {η : En}
theorem Rep.setU (r : Rep K sx H0 F0 F σ H η) (i : Nat) (x : Option V) : Rep K sx H0 F0 F (σ.set i x) H (η.set i .un) where
  base := r.base
  s0 := r.s0
  f0 := r.f0
  fr := r.fr
  len := by rw [List.length_set, List.length_set]; exact r.len
  sl := fun j s v h1 h2 => by
    by_cases e : i = j
    · subst e
      have hi : i < η.length := by have := (List.getElem?_eq_some_iff.mp h1).1; simpa using this
      rw [List.getElem?_set_self hi] at h1
      cases h1
      trivial
    · rw [List.getElem?_set_ne e] at h1 h2
      exact r.sl j s v h1 h2
  sep := fun j k d e a h1 h2 h3 h4 => by
    by_cases e1 : i = j
    · subst e1
      have hi : i < η.length := by have := (List.getElem?_eq_some_iff.mp h1).1; simpa using this
      rw [List.getElem?_set_self hi] at h1; cases h1
    by_cases e2 : i = k
    · subst e2
      have hi : i < η.length := by have := (List.getElem?_eq_some_iff.mp h2).1; simpa using this
      rw [List.getElem?_set_self hi] at h2; cases h2
    rw [List.getElem?_set_ne e1] at h1 h3
    rw [List.getElem?_set_ne e2] at h2 h4
    exact r.sep j k d e a h1 h2 h3 h4
theorem Rep.setFz (r : Rep K sx H0 F0 F σ H η) (i : Nat) {v : V} {d : D} (h : Dt K F v d) : Rep K sx H0 F0 F (σ.set i (some v)) H (η.set i (.fz d)) where
  base := r.base
  s0 := r.s0
  f0 := r.f0
  fr := r.fr
  len := by rw [List.length_set, List.length_set]; exact r.len
  sl := fun j s x h1 h2 => by
    by_cases e : i = j
    · subst e
      have hi : i < η.length := by have := (List.getElem?_eq_some_iff.mp h1).1; simpa using this
      have hi' : i < σ.length := by rw [← r.len]; exact hi
      rw [List.getElem?_set_self hi] at h1
      rw [List.getElem?_set_self hi'] at h2
      cases h1; cases h2
      exact ⟨v, rfl, h⟩
    · rw [List.getElem?_set_ne e] at h1 h2
      exact r.sl j s x h1 h2
  sep := fun j k d e a h1 h2 h3 h4 => by
    by_cases e1 : i = j
    · subst e1
      have hi : i < η.length := by have := (List.getElem?_eq_some_iff.mp h1).1; simpa using this
      rw [List.getElem?_set_self hi] at h1; cases h1
    by_cases e2 : i = k
    · subst e2
      have hi : i < η.length := by have := (List.getElem?_eq_some_iff.mp h2).1; simpa using this
      rw [List.getElem?_set_self hi] at h2; cases h2
    rw [List.getElem?_set_ne e1] at h1 h3
    rw [List.getElem?_set_ne e2] at h2 h4
    exact r.sep j k d e a h1 h2 h3 h4
/-- a new object at a slot; r: as it stood ahead of the object -/
theorem Rep.setOw (r : Rep K sx H0 F0 F σ H η) (e : Ext2 sx F H F1 H1) (i : Nat) {a : Addr} {d : D} (ho : OwnAt K F1 H1 a d) (hf : F1 a = none) (hn : H a = none) : Rep K sx H0 F0 F1 (σ.set i (some (.ref a))) H1 (η.set i (.ow d)) :=
  let r1 := r.ext e
  have nx : ¬ inSx sx a := fun z => by obtain ⟨o, q⟩ := r.base.ok.there z; rw [hn] at q; cases q
  have h0 : H0 a = none := by
    cases q : H0 a with
    | none => rfl
    | some o => rw [r.s0 a o q nx] at hn; cases hn
  { base := r1.base, s0 := r1.s0, f0 := r1.f0, fr := r1.fr, len := by rw [List.length_set, List.length_set]; exact r.len,
    sl := fun j s x h1 h2 => by
      by_cases e : i = j
      · subst e
        have hi : i < η.length := by have := (List.getElem?_eq_some_iff.mp h1).1; simpa using this
        have hi' : i < σ.length := by rw [← r.len]; exact hi
        rw [List.getElem?_set_self hi] at h1
        rw [List.getElem?_set_self hi'] at h2
        cases h1; cases h2
        exact ⟨a, rfl, ho, hf, h0, nx⟩
      · rw [List.getElem?_set_ne e] at h1 h2
        exact r1.sl j s x h1 h2,
    sep := fun j k d' e' b h1 h2 h3 h4 => by
      have old : ∀ (m : Nat) (d : D), η[m]? = some (.ow d) → σ[m]? = some (some (.ref b)) → ∃ o, H b = some o := fun m d z1 z2 => by
        obtain ⟨a', e1, ho', _⟩ := r.sl m _ _ z1 z2
        cases e1
        exact ho'.there
      have self : ∀ (m : Nat), i = m → (η.set i (.ow d))[m]? = some (.ow d) → (σ.set i (some (V.ref a)))[m]? = some (some (.ref b)) → b = a := fun m e z1 z2 => by
        subst e
        have hi : i < η.length := by have := (List.getElem?_eq_some_iff.mp z1).1; simpa using this
        have hi' : i < σ.length := by rw [← r.len]; exact hi
        rw [List.getElem?_set_self hi'] at z2
        cases z2; rfl
      by_cases e1 : i = j
      · by_cases e2 : i = k
        · rw [← e1, e2]
        · exfalso
          subst e1
          have hi : i < η.length := by have := (List.getElem?_eq_some_iff.mp h1).1; simpa using this
          have hi' : i < σ.length := by rw [← r.len]; exact hi
          rw [List.getElem?_set_self hi'] at h3
          cases h3
          rw [List.getElem?_set_ne e2] at h2 h4
          obtain ⟨o, q⟩ := old k e' h2 h4
          rw [hn] at q; cases q
      · by_cases e2 : i = k
        · exfalso
          subst e2
          have hi : i < η.length := by have := (List.getElem?_eq_some_iff.mp h2).1; simpa using this
          have hi' : i < σ.length := by rw [← r.len]; exact hi
          rw [List.getElem?_set_self hi'] at h4
          cases h4
          rw [List.getElem?_set_ne e1] at h1 h3
          obtain ⟨o, q⟩ := old j d' h1 h3
          rw [hn] at q; cases q
        · rw [List.getElem?_set_ne e1] at h1 h3
          rw [List.getElem?_set_ne e2] at h2 h4
          exact r.sep j k d' e' b h1 h2 h3 h4 }
theorem Rep.wipe (r : Rep K sx H0 F0 F σ H η) : ∀ vs : List Nat, Rep K sx H0 F0 F (L2.wipe σ vs) H (wipeE η vs)
  | [] => r
  | v :: vs => (r.wipe vs).setU v none
end
theorem wipe_set {σ : L2.St} {i : Nat} {x : Option V} : ∀ {vs : List Nat}, i ∈ vs → L2.wipe (σ.set i x) vs = L2.wipe σ vs
  | [], h => by cases h
  | v :: vs, h => by
    show (L2.wipe (σ.set i x) vs).set v none = (L2.wipe σ vs).set v none
    by_cases hi : i ∈ vs
    · rw [wipe_set hi]
    · have e : i = v := by rcases List.mem_cons.mp h with h | h; exact h; exact absurd h hi
      subst e
      have : ∀ (ws : List Nat), i ∉ ws → L2.wipe (σ.set i x) ws = (L2.wipe σ ws).set i x := by
        intro ws
        induction ws with
        | nil => intro _; rfl
        | cons u us ih =>
          intro hn
          have h1 : i ≠ u := fun z => hn (by rw [z]; exact List.mem_cons_self)
          have h2 : i ∉ us := fun z => hn (List.mem_cons_of_mem _ z)
          show (L2.wipe (σ.set i x) us).set u none = ((L2.wipe σ us).set u none).set i x
          rw [ih h2, List.set_comm _ _ h1]
      rw [this vs hi, List.set_set]

/-! ### targets -/
abbrev WG := D → En → (En → Prop) → Prop
abbrev WGs := List D → En → (En → Prop) → Prop
/-- L: the slots that the target stores -/
def SemG (K : PySem.W.Frag) (g : TG) (w : WG) (L : List Nat) : Prop := ∀ {sx : Sx} {H0 F0 F : Hp} {σ : L2.St} {H : Hp} {η : En} {v : V} {d : D} {Q : En → Prop} {R : L2.St → Hp → Prop}, Rep K sx H0 F0 F σ H η → Dt K F v d → w d η Q →
  (∀ σ' η', Q η' → Rep K sx H0 F0 F σ' H η' → (∀ vs, (∀ i ∈ L, i ∈ vs) → L2.wipe σ' vs = L2.wipe σ vs) → R σ' H) → g v σ H R
def SemGs (K : PySem.W.Frag) (g : TGs) (w : WGs) (L : List Nat) : Prop := ∀ {sx : Sx} {H0 F0 F : Hp} {σ : L2.St} {H : Hp} {η : En} {v : List V} {d : List D} {Q : En → Prop} {R : L2.St → Hp → Prop}, Rep K sx H0 F0 F σ H η → DtL K F v d → w d η Q →
  (∀ σ' η', Q η' → Rep K sx H0 F0 F σ' H η' → (∀ vs, (∀ i ∈ L, i ∈ vs) → L2.wipe σ' vs = L2.wipe σ vs) → R σ' H) → g v σ H R
structure DG (X : Cx) (tg : Expr) (g : TG) (w : WG) (L : List Nat) : Prop where
  pg : PG X tg g
  sem : SemG X.K g w L
structure DGs (X : Cx) (tg : List Expr) (g : TGs) (w : WGs) (L : List Nat) : Prop where
  pg : PGs X tg g
  sem : SemGs X.K g w L
def wGn (i : Nat) : WG := fun d η Q => Q (η.set i (.fz d))
def wGnil : WGs := fun ds η Q => match ds with
  | [] => Q η
  | _ => False
def wGcons (g : WG) (gs : WGs) : WGs := fun ds η Q => match ds with
  | [] => False
  | d :: r => g d η fun η1 => gs r η1 Q
def wGt (n : Nat) (gs : WGs) : WG := fun d η Q => match d with
  | .tuple ds => ds.length = n ∧ gs ds η Q
  | .list ds => ds.length = n ∧ gs ds η Q
  | _ => False
theorem PG.or {X : Cx} {tg : Expr} {g g' : TG} (h : PG X tg g) (h' : PG X tg g') : PG X tg (fun v σ H Q => g v σ H Q ∨ g' v σ H Q) := ⟨fun pins s σ H v u Q I r hw => by
  rcases hw with hw | hw
  · exact h.run pins s σ H v u Q I r hw
  · exact h'.run pins s σ H v u Q I r hw⟩
section
variable {X : Cx}
theorem sem_gname {K : PySem.W.Frag} {i : Nat} : SemG K (gName i) (wGn i) [i] := fun r h hw k => k _ _ hw (r.setFz i h) fun vs hv => wipe_set (hv i (by simp))
theorem dg_name (i : Nat) {x : Str} {pos : Pos} (hN : X.N.Nodup) (hi : X.N[i]? = some x := by rfl) (hx : Loc X.env.scope x := by first | exact Or.inl rfl | exact Or.inr rfl) (hf : X.fn x = true ∨ X.env.scope.names.lookup x = some .local := by first | exact .inl rfl | exact .inr rfl) : DG X (.Name x pos) (gName i) (wGn i) [i] :=
  ⟨pg_name hN hi hx hf, sem_gname⟩
theorem dgs_nil : DGs X [] gNil wGnil [] := ⟨pgs_nil, fun {sx H0 F0 F σ H η v d Q R} r h hw k => by
  cases h with
  | nil => exact ⟨rfl, k _ _ hw r fun vs _ => rfl⟩
  | cons _ _ => exact hw.elim⟩
theorem dgs_cons {e : Expr} {es : List Expr} {t : TG} {u : TGs} {w : WG} {ws : WGs} {L Ls : List Nat} (h1 : DG X e t w L) (h2 : DGs X es u ws Ls)
    (hs : (assignEach (e :: es) X.env).map (·.2) = assign e X.env :: (assignEach es X.env).map (·.2) := by rfl) : DGs X (e :: es) (gCons t u) (wGcons w ws) (L ++ Ls) :=
  ⟨pgs_cons h1.pg h2.pg hs, fun {sx H0 F0 F σ H η v d Q R} r h hw k => by
    cases h with
    | nil => exact hw.elim
    | cons ha ht => exact ⟨_, _, rfl, h1.sem r ha hw fun σ1 η1 q1 r1 w1 => h2.sem r1 ht q1 fun σ2 η2 q2 r2 w2 => k _ _ q2 r2 fun vs hv => (w2 vs fun i hi => hv i (List.mem_append_right _ hi)).trans (w1 vs fun i hi => hv i (List.mem_append_left _ hi))⟩⟩
theorem dg_tup {es : List Expr} {k : Nat} {t : TGs} {n : Nat} {pos : Pos} {ws : WGs} {L : List Nat} (hc : X.calm = true) (h : DGs X es t ws L)
    (hn : (assignEach es X.env).length = n := by rfl) (hst : (assignEach es X.env).findIdx? (·.1) = none := by rfl) : DG X (.Tuple es k pos) (fun v σ H Q => gTup X.K n t v σ H Q ∨ gUnl X.K n t v σ H Q) (wGt n ws) L :=
  ⟨PG.or (pg_tup hc h.pg hn hst) (pg_unl hc h.pg hn hst), fun {sx H0 F0 F σ H η v d Q R} r hd hw k => by
    cases d <;> first | exact hw.elim | skip
    · cases hd with
      | lst h1 h2 => exact .inr ⟨_, _, rfl, SqL.of (r.base.le _ _ h1), by rw [h2.length]; exact hw.1, h.sem r h2 hw.2 k⟩
    · cases hd with
      | tup h1 h2 => exact .inl ⟨_, _, rfl, SqT.of (r.base.le _ _ h1), by rw [h2.length]; exact hw.1, h.sem r h2 hw.2 k⟩⟩
end

/-! ### what is walked -/
abbrev WI := En → (List D → Prop) → Prop
/-- the items are ds, whatever grows meanwhile -/
structure ItOk (K : PySem.W.Frag) (sx : Sx) (F : Hp) (J : It) (ds : List D) : Prop where
  go : ∀ {F' H' : Hp} {i : Nat}, Same F F' → Base sx F' H' → i < ds.length → J.go i H'
  yld : ∀ {F' H' H'' : Hp} {i : Nat} {x : V} {d : D}, Same F F' → Base sx F' H' → ds[i]? = some d → J.yld i H' x H'' → ∃ F'', Ext2 sx F' H' F'' H'' ∧ Dt K F'' x d
  stop : ∀ {F' H' : Hp}, Same F F' → Base sx F' H' → J.stop ds.length H'
theorem ItOk.mono {K : PySem.W.Frag} {sx : Sx} {F F1 : Hp} {J : It} {ds : List D} (h : ItOk K sx F J ds) (e : Same F F1) : ItOk K sx F1 J ds := ⟨fun s b l => h.go (e.trans s) b l, fun s b l y => h.yld (e.trans s) b l y, fun s b => h.stop (e.trans s) b⟩
def ContI (K : PySem.W.Frag) (sx : Sx) (F H : Hp) (Q : List D → Prop) (R : It → Hp → Prop) : Prop := ∀ ds J F' H', Q ds → Ext2 sx F H F' H' → ItOk K sx F' J ds → R J H'
def SemI (K : PySem.W.Frag) (t : TI) (w : WI) : Prop := ∀ {sx : Sx} {H0 F0 F : Hp} {σ : L2.St} {H : Hp} {η : En} {Q : List D → Prop} {R : It → Hp → Prop}, Rep K sx H0 F0 F σ H η → w η Q → ContI K sx F H Q R → t σ H R
structure DI (X : Cx) (tg iter : Expr) (t : TI) (w : WI) : Prop where
  pi : PI X tg iter t
  sem : SemI X.K t w
theorem PI.or {X : Cx} {tg e : Expr} {t t' : TI} (h : PI X tg e t) (h' : PI X tg e t') : PI X tg e (fun σ H R => t σ H R ∨ t' σ H R) := ⟨fun pins s σ H R I hw => by
  rcases hw with hw | hw
  · exact h.run pins s σ H R I hw
  · exact h'.run pins s σ H R I hw⟩
theorem it_list {K : PySem.W.Frag} {sx : Sx} {F : Hp} {a : Addr} {xs : List V} {ds : List D} (h : F a = some (.lst xs)) (hd : DtL K F xs ds) : ItOk K sx F (Itl K a) ds where
  go := fun {F' H' i} s b hi => ⟨xs, xs[i]'(by rw [hd.length]; exact hi), SqL.of (b.le _ _ (s _ _ h)), List.getElem?_eq_getElem _⟩
  yld := fun {F' H' H'' i x d} s b hi y => by
    obtain ⟨rfl, f⟩ := y
    obtain ⟨v, hv, dv⟩ := hd.get i hi
    have e := f xs (SqL.of (b.le _ _ (s _ _ h)))
    rw [hv] at e
    cases e
    exact ⟨F', .refl b, dv.mono s⟩
  stop := fun {F' H'} s b => ⟨xs, SqL.of (b.le _ _ (s _ _ h)), by rw [hd.length]; exact Nat.le_refl _⟩
theorem it_tup {K : PySem.W.Frag} {sx : Sx} {F : Hp} {a : Addr} {xs : List V} {ds : List D} (h : F a = some (.tup xs)) (hd : DtL K F xs ds) : ItOk K sx F (Itt K a) ds where
  go := fun {F' H' i} s b hi => ⟨xs, xs[i]'(by rw [hd.length]; exact hi), SqT.of (b.le _ _ (s _ _ h)), List.getElem?_eq_getElem _⟩
  yld := fun {F' H' H'' i x d} s b hi y => by
    obtain ⟨rfl, f⟩ := y
    obtain ⟨v, hv, dv⟩ := hd.get i hi
    have e := f xs (SqT.of (b.le _ _ (s _ _ h)))
    rw [hv] at e
    cases e
    exact ⟨F', .refl b, dv.mono s⟩
  stop := fun {F' H'} s b => ⟨xs, SqT.of (b.le _ _ (s _ _ h)), by rw [hd.length]; exact Nat.le_refl _⟩
/-- the keys, frozen: their tuples are so from now on -/
theorem DtK.key {K : PySem.W.Frag} {F : Hp} : ∀ {kvs : List (Key × V)} {es : List (D × D)} (i : Nat) {k : Key} {v : V}, DtK K F kvs es → kvs[i]? = some (k, v) → ∃ d, es[i]? = some (kD k, d) ∧ Dt K F v d
  | _, _, _, _, _, .nil, e => by simp at e
  | _, _, 0, _, _, .cons h _, e => by
    simp at e
    obtain ⟨rfl, rfl⟩ := e
    exact ⟨_, rfl, h⟩
  | _, _, i + 1, _, _, .cons _ t, e => by
    obtain ⟨d, h1, h2⟩ := t.key i (by simpa using e)
    exact ⟨d, by simpa using h1, h2⟩
theorem DtT.key {K : PySem.W.Frag} {F : Hp} : ∀ {kvs : List (List Key × V)} {es : List (D × D)} (i : Nat) {k : List Key} {v : V}, DtT K F kvs es → kvs[i]? = some (k, v) → ∃ d, es[i]? = some (.tuple (k.map kD), d) ∧ Dt K F v d
  | _, _, _, _, _, .nil, e => by simp at e
  | _, _, 0, _, _, .cons h _, e => by
    simp at e
    obtain ⟨rfl, rfl⟩ := e
    exact ⟨_, rfl, h⟩
  | _, _, i + 1, _, _, .cons _ t, e => by
    obtain ⟨d, h1, h2⟩ := t.key i (by simpa using e)
    exact ⟨d, by simpa using h1, h2⟩
theorem DtK.length {K : PySem.W.Frag} {F : Hp} : ∀ {kvs : List (Key × V)} {es : List (D × D)}, DtK K F kvs es → kvs.length = es.length
  | _, _, .nil => rfl
  | _, _, .cons _ t => congrArg (· + 1) t.length
theorem DtT.length {K : PySem.W.Frag} {F : Hp} : ∀ {kvs : List (List Key × V)} {es : List (D × D)}, DtT K F kvs es → kvs.length = es.length
  | _, _, .nil => rfl
  | _, _, .cons _ t => congrArg (· + 1) t.length
/-- a tuple of keys that stands in the heap is frozen from now on -/
theorem Ext2.keyTup {sx : Sx} {F H : Hp} (b : Base sx F H) {q : Addr} {xs : List V} (h : H q = some (.tup xs)) : Ext2 sx F H (upd F q (.tup xs)) H where
  sF := fun c u e => by
    by_cases z : c = q
    · subst z
      have e1 := b.le _ _ e
      rw [h] at e1
      cases e1
      rw [upd_same]
    · rw [upd_ne z]; exact e
  sH := fun _ _ e _ => e
  le := fun c u e => by
    by_cases z : c = q
    · subst z; rw [upd_same] at e; cases e; exact h
    · rw [upd_ne z] at e; exact b.le _ _ e
  fr := fun c u e => by
    by_cases z : c = q
    · subst z; rw [upd_same] at e; cases e; exact .inr (.inr ⟨_, rfl⟩)
    · rw [upd_ne z] at e; exact .inl e
  ok := b.ok
theorem it_keysK {K : PySem.W.Frag} {sx : Sx} {F : Hp} {a : Addr} {o : Obj} {kvs : List (Key × V)} {es : List (D × D)} (h : F a = some (.frz o (.dK kvs))) (hd : DtK K F kvs es) : ItOk K sx F (Itk a o kvs) (es.map (·.1)) where
  go := fun {F' H' i} s b hi => ⟨b.le _ _ (s _ _ h), by rw [hd.length]; simpa using hi⟩
  yld := fun {F' H' H'' i x d} s b hi y => by
    obtain ⟨rfl, k, v, hk, rfl⟩ := y
    obtain ⟨d', h1, _⟩ := hd.key i hk
    rw [List.getElem?_map, h1] at hi
    cases hi
    exact ⟨F', .refl b, .key k⟩
  stop := fun {F' H'} s b => ⟨b.le _ _ (s _ _ h), by rw [hd.length]; simp⟩
theorem it_keysT {K : PySem.W.Frag} {sx : Sx} {F : Hp} {a : Addr} {o : Obj} {kvs : List (List Key × V)} {es : List (D × D)} (h : F a = some (.frz o (.dT kvs))) (hd : DtT K F kvs es) : ItOk K sx F (Itkt a o kvs) (es.map (·.1)) where
  go := fun {F' H' i} s b hi => ⟨b.le _ _ (s _ _ h), by rw [hd.length]; simpa using hi⟩
  yld := fun {F' H' H'' i x d} s b hi y => by
    obtain ⟨rfl, k, v, q, hk, rfl, hq⟩ := y
    obtain ⟨d', h1, _⟩ := hd.key i hk
    rw [List.getElem?_map, h1] at hi
    cases hi
    exact ⟨_, .keyTup b hq, .tup upd_same (.keys k)⟩
  stop := fun {F' H'} s b => ⟨b.le _ _ (s _ _ h), by rw [hd.length]; simp⟩
/-- a list, a tuple, a dict's keys -/
def wItems (we : WE) : WI := fun η Q => we η fun d => match d with
  | .list ds => Q ds
  | .tuple ds => Q ds
  | .dict es => Q (es.map (·.1))
  | _ => False
def rangeD (lo : Int) (n : Nat) : List D := (List.range n).map fun k => .int (lo + (k : Nat))
def wRng1 (wa : WE) : WI := fun η Q => wa η fun d => match d with
  | .int j => (-(2 ^ 62) ≤ j ∧ j < 2 ^ 62) ∧ Q (rangeD 0 j.toNat)
  | _ => False
def wRng2 (wa wb : WE) : WI := fun η Q => wa η fun d => wb η fun e => match d, e with
  | .int i, .int j => (-(2 ^ 62) ≤ i ∧ i < 2 ^ 62 ∧ -(2 ^ 62) ≤ j ∧ j < 2 ^ 62) ∧ Q (rangeD i (j - i).toNat)
  | _, _ => False
theorem it_rng {K : PySem.W.Frag} {sx : Sx} {F : Hp} {lo : Int} {n : Nat} : ItOk K sx F (Itr lo n) (rangeD lo n) where
  go := fun {F' H' i} _ _ hi => by
    show i < n
    simpa [rangeD] using hi
  yld := fun {F' H' H'' i x d} s b hi y => by
    obtain ⟨rfl, rfl⟩ := y
    rw [rangeD, List.getElem?_map] at hi
    cases q : (List.range n)[i]? with
    | none => rw [q] at hi; cases hi
    | some j =>
      rw [q] at hi
      have e : i = j := by
        have := List.getElem?_eq_some_iff.mp q
        obtain ⟨h1, h2⟩ := this
        simpa using h2
      subst e
      cases hi
      exact ⟨F', .refl b, .int _⟩
  stop := fun {F' H'} _ _ => by
    show n ≤ _
    simp [rangeD]
section
variable {X : Cx} {tg e : Expr} {te : TE} {we : WE} {ta tb : TE} {wa wb : WE} {a b : Expr} {p pos : Pos}
/-- a list, a tuple, a dict's keys -/
def iAny (K : PySem.W.Frag) (te : TE) : TI := fun σ H R => te σ H fun x H1 => ∃ a, x = .ref a ∧
  ((∃ xs, SqL K H1 a xs ∧ R (Itl K a) H1) ∨ (∃ xs, SqT K H1 a xs ∧ R (Itt K a) H1) ∨ (∃ o kvs, H1 a = some (.frz o (.dK kvs)) ∧ R (Itk a o kvs) H1) ∨ ∃ o kvs, H1 a = some (.frz o (.dT kvs)) ∧ R (Itkt a o kvs) H1)
theorem pi_any (he : PE X e te) : PI X tg e (iAny X.K te) := by
  refine ⟨fun pins s σ H R I h => ?_⟩
  refine thn (he.run pins s σ H _ I h) fun u s1 ⟨x, H1, I1, rx, a, ex, q⟩ => ?_
  subst ex
  obtain rfl : u = Value.ref a := rx
  have fin : ∀ {tn : Nat → Heap → Prop} (J : It) (o : Obj), Turn X.prog X.w X.K tg J [s1.heap.objs.size] s1.heap.objs.size tn → tn 0 (s1.heap.push o) → R J H1 → PIE X pins σ tg R (.ref s1.heap.objs.size) { s1 with heap := s1.heap.push o, toks := s1.toks } :=
    fun J o T st q => pi_one I1 o T st q
  rcases q with ⟨xs, hq, q⟩ | ⟨xs, hq, q⟩ | ⟨o, kvs, hd, q⟩ | ⟨o, kvs, hd, q⟩
  · obtain ⟨its, rv, p, hz⟩ := I1.list hq
    exact wpAny_pyIter_list p.isList (fin _ _ (turn_list a _) ⟨_, Heap.get?_push_size _ rfl, rfl, rfl⟩ q)
  · obtain ⟨its, rv, p, hz⟩ := I1.tuple hq
    exact wpAny_pyIter_tuple (show s1.heap.IsTuple a its.toArray from p) (fin _ _ (turn_tuple a _) ⟨_, Heap.get?_push_size _ rfl, rfl, rfl⟩ q)
  · obtain ⟨hs, hgd, hx, es, ep, vs, hdt, hsz, kv, hm⟩ := I1.frzK hd
    refine iter_keys hs hgd hx hdt (fin _ _ (turn_keys _ hdt) ⟨_, Heap.get?_push_size _ rfl, rfl, ?_⟩ q)
    rw [hsz] <;> rfl
  · obtain ⟨hs, hgd, hx, es, ep, hdt, hsz, ent⟩ := I1.frzT hd
    refine iter_keys hs hgd hx hdt (fin _ _ (turn_keysT _ hdt) ⟨_, Heap.get?_push_size _ rfl, rfl, ?_⟩ q)
    rw [hsz] <;> rfl
theorem di_items (he : DE X e te we) : DI X tg e (iAny X.K te) (wItems we) :=
  ⟨pi_any he.pe, fun {sx H0 F0 F σ H η Q R} r hw k => he.sem r hw fun d v F1 H1 q e hd => by
    have le := (r.ext e).base.le
    cases d <;> first | exact q.elim | skip
    · cases hd with
      | lst h1 h2 => exact ⟨_, rfl, .inl ⟨_, SqL.of (le _ _ h1), k _ _ F1 H1 q e (it_list h1 h2)⟩⟩
    · cases hd with
      | tup h1 h2 => exact ⟨_, rfl, .inr (.inl ⟨_, SqT.of (le _ _ h1), k _ _ F1 H1 q e (it_tup h1 h2)⟩)⟩
    · cases hd with
      | dK h1 h2 => exact ⟨_, rfl, .inr (.inr (.inl ⟨_, _, le _ _ h1, k _ _ F1 H1 q e (it_keysK h1 h2)⟩))⟩
      | dT h1 h2 => exact ⟨_, rfl, .inr (.inr (.inr ⟨_, _, le _ _ h1, k _ _ F1 H1 q e (it_keysT h1 h2)⟩))⟩⟩
theorem di_range1 (hg : Gl X "range") (hm : X.mg "range" = none) (ha : DO X a ta wa) (hs : starEach [a] X.env = [(false, eval a X.env)] := by rfl) : DI X tg (.Call (.Name "range" p) [a] [] pos) (iRng1 (tCons ta tNil)) (wRng1 wa) :=
  ⟨pi_range1 hg hm (pa_cons ha.pe pa_nil hs) hs, fun {sx H0 F0 F σ H η Q R} r hw k => ha.sem r hw fun d v F1 H1 q e o => by
    cases d <;> first | exact q.elim | skip
    cases (o.nw (r.ext e)).int
    exact ⟨_, rfl, q.1.1, q.1.2, k _ _ F1 H1 q.2 e it_rng⟩⟩
theorem di_range2 (hg : Gl X "range") (hm : X.mg "range" = none) (ha : DO X a ta wa) (hb : DO X b tb wb) (hs : starEach [a, b] X.env = [(false, eval a X.env), (false, eval b X.env)] := by rfl) (hs' : starEach [b] X.env = [(false, eval b X.env)] := by rfl) : DI X tg (.Call (.Name "range" p) [a, b] [] pos) (iRng2 (tCons ta (tCons tb tNil))) (wRng2 wa wb) :=
  ⟨pi_range2 hg hm (pa_cons ha.pe (pa_cons hb.pe pa_nil hs') (hs.trans (by rw [hs']))) hs hs', fun {sx H0 F0 F σ H η Q R} r hw k => ha.sem r hw fun d v F1 H1 q1 e1 o1 => hb.sem (r.ext e1) q1 fun d2 v2 F2 H2 q e2 o2 => by
    cases d <;> cases d2 <;> first | exact q.elim | skip
    have r2 := (r.ext e1).ext e2
    cases ((o1.mono e2.sF).nw r2).int
    cases (o2.nw r2).int
    exact ⟨_, _, rfl, q.1, k _ _ F2 H2 q.2 (e1.trans e2) it_rng⟩⟩
end

/-! ### comprehensions -/
def lcGo (g : WG) (tt : WT) (we : WE) (η : En) : List D → List D → (D → Prop) → Prop
  | [], acc, Q => Q (.list acc)
  | d :: ds, acc, Q => g d η fun η1 => tt η1 fun b => if b = true then we η1 fun y => acc.length < sizeLine ∧ lcGo g tt we η ds (acc ++ [y]) Q else lcGo g tt we η ds acc Q
def wLc (wi : WI) (g : WG) (tt : WT) (we : WE) (vs : List Nat) : WE := fun η Q => wi η fun ds => lcGo g tt we (wipeE η vs) ds [] Q
theorem sem_lc {K : PySem.W.Frag} {wi : TI} {wI : WI} {g : TG} {wg : WG} {L : List Nat} {tt : TT} {wt : WT} {te : TE} {we : WE} {vs : List Nat} (hi : SemI K wi wI) (hg : SemG K g wg L) (ht : SemT K tt wt) (he : SemE K te we) (hL : ∀ i ∈ L, i ∈ vs) :
    SemL K (tLc wi g tt te vs) (wLc wI wg wt we vs) := fun {sx H0 F0 F σ H η Q R} r hw k => by
  refine hi r hw fun ds J F1 H1 q e1 hit => ?_
  intro D hD
  have r1 := r.ext e1
  have rw1 := r1.wipe vs
  refine ⟨fun i m H' => ∃ F' xs acc, i ≤ ds.length ∧ m = ds.length - i ∧ Ext2 sx F1 H1 F' H' ∧ F' D = none ∧ H' D = some (.lst xs) ∧ DtL K F' xs acc ∧ lcGo wg wt we (wipeE η vs) (ds.drop i) acc Q, ⟨ds.length, F1, [], [], Nat.zero_le _, rfl, .newF r1.base hD, ?_, upd_same, .nil, q⟩, ?_⟩
  · cases z : F1 D with
    | none => rfl
    | some o => rw [r1.base.le _ _ z] at hD; cases hD
  · rintro i m H' ⟨F', xs, acc, hi1, hm, e', hF, hH, hxs, hq⟩
    have rr := rw1.ext e'
    by_cases h : i < ds.length
    · rw [List.drop_eq_getElem_cons h] at hq
      refine .inr ⟨hit.go e'.sF rr.base h, fun H'' => ∃ F'' xs acc, Ext2 sx F1 H1 F'' H'' ∧ F'' D = none ∧ H'' D = some (.lst xs) ∧ DtL K F'' xs acc ∧ lcGo wg wt we (wipeE η vs) (ds.drop (i + 1)) acc Q, ?_, ?_⟩
      · rintro H'' ⟨F'', xs, acc, a1, a2, a3, a4, a5⟩
        exact ⟨ds.length - (i + 1), by omega, F'', xs, acc, h, rfl, a1, a2, a3, a4, a5⟩
      · intro x H'' hy
        obtain ⟨F2, e2, hd⟩ := hit.yld e'.sF rr.base (List.getElem?_eq_getElem h) hy
        have r2 := rr.ext e2
        have keep : ∀ {Fa Ha Fb Hb : Hp}, Ext2 sx Fa Ha Fb Hb → Fa D = none → Ha D = some (.lst xs) → Fb D = none ∧ Hb D = some (.lst xs) := fun {Fa Ha Fb Hb} e f h => by
          have nx : ¬ inSx sx D := fun z => by obtain ⟨o, q⟩ := r1.base.ok.there z; rw [hD] at q; cases q
          have hb := e.sH _ _ h nx
          refine ⟨?_, hb⟩
          cases z : Fb D with
          | none => rfl
          | some o =>
            rcases e.fr _ _ z with y | y | ⟨ys, rfl⟩
            · rw [f] at y; cases y
            · rw [h] at y; cases y
            · rw [e.le _ _ z] at hb; cases hb
        obtain ⟨k1, k2⟩ := keep e2 hF hH
        refine hg r2 hd hq fun σ2 η2 q2 r2' w2 => ⟨?_, ?_⟩
        · rw [w2 vs hL]
          have : ∀ (ws : List Nat), L2.wipe (L2.wipe σ ws) ws = L2.wipe σ ws := by
            have aux : ∀ (ws : List Nat) (τ : L2.St), (∀ i ∈ ws, i < τ.length → τ[i]? = some none) → L2.wipe τ ws = τ := by
              intro ws
              induction ws with
              | nil => intro τ _; rfl
              | cons u us ih =>
                intro τ hτ
                show (L2.wipe τ us).set u none = τ
                rw [ih τ fun i hi => hτ i (List.mem_cons_of_mem _ hi)]
                apply List.ext_getElem?
                intro j
                by_cases e : u = j
                · subst e
                  by_cases hu : u < τ.length
                  · rw [List.getElem?_set_self hu, hτ u List.mem_cons_self hu]
                  · rw [List.getElem?_eq_none (by simpa using hu), List.getElem?_eq_none (by simpa using hu)]
                · rw [List.getElem?_set_ne e]
            intro ws
            refine aux ws _ ?_
            induction ws with
            | nil => intro i hi; cases hi
            | cons u us ih =>
              intro i hi hl
              show ((L2.wipe σ us).set u none)[i]? = _
              by_cases e : u = i
              · subst e
                rw [List.getElem?_set_self (by simpa [L2.wipe, List.length_set] using hl)]
              · rw [List.getElem?_set_ne e]
                rcases List.mem_cons.mp hi with h | h
                · exact absurd h.symm e
                · exact ih i h (by simpa [L2.wipe, List.length_set] using hl)
          exact this vs
        · refine ht r2' q2 fun b F3 H3 q3 e3 => ?_
          obtain ⟨k3, k4⟩ := keep e3 k1 k2
          cases b with
          | false =>
            rw [if_neg Bool.false_ne_true] at q3 ⊢
            exact ⟨F3, xs, acc, (e'.trans e2).trans e3, k3, k4, hxs.mono (e2.sF.trans e3.sF), q3⟩
          | true =>
            rw [if_pos rfl] at q3 ⊢
            refine he (r2'.ext e3) q3 fun y v F4 H4 q4 e4 hv => ?_
            obtain ⟨k5, k6⟩ := keep e4 k3 k4
            have h4 := ((e'.trans e2).trans e3).trans e4
            refine ⟨xs, k6, by rw [hxs.length]; exact q4.1, F4, xs ++ [v], acc ++ [y], ?_, k5, upd_same, (hxs.mono (e2.sF.trans (e3.sF.trans e4.sF))).append (.one hv), q4.2⟩
            have nx : ¬ inSx sx D := fun z => by obtain ⟨o, q⟩ := r1.base.ok.there z; rw [hD] at q; cases q
            refine ⟨h4.sF, fun b o hb n => ?_, fun b o hb => ?_, h4.fr, ?_⟩
            · rw [upd_ne (ne_of_none hb hD)]; exact h4.sH _ _ hb n
            · rw [upd_ne (ne_of_none hb k5)]; exact h4.le _ _ hb
            · cases sx with
              | none => trivial
              | some p =>
                obtain ⟨a1, b1⟩ := p
                obtain ⟨n, cs, l, m, t, z1, z2, z⟩ := h4.ok
                refine ⟨n, cs, l, m, t, ?_, ?_, z⟩
                · rw [upd_ne (fun z => nx (.inl z.symm))]; exact z1
                · rw [upd_ne (fun z => nx (.inr z.symm))]; exact z2
    · have hl : i = ds.length := by omega
      subst hl
      rw [List.drop_length] at hq
      have e3 := e1.trans e'
      have hn : H D = none := e1.back hD
      exact .inl ⟨hit.stop e'.sF rr.base, k acc xs D F' H' hq e3 hH hxs hF hn⟩
/-- a clause's tests -/
structure DTT (X : Cx) (ifs : List Expr) (t : TT) (w : WT) : Prop where
  pts : PTs X ifs t
  sem : SemT X.K t w
def wYes : WT := fun _ Q => Q true
section
variable {X : Cx}
theorem dtt_nil : DTT X [] tYes wYes := ⟨pts_nil, fun r hw k => k true _ _ hw (.refl r.base)⟩
theorem dtt_one {c : Expr} {t : TT} {w : WT} (h : DTs X c t w) : DTT X [c] t w := ⟨pts_one h.pt, h.sem⟩
abbrev compX (X : Cx) (scope : Scope) (s : Shared) (H : Hp) (C : Addr) (cl : List (Str × Addr)) (fp : List Addr) : Cx := X.blk s H scope (compEnvC scope cl C X.env) fp
theorem dl_lc {elt tg iter : Expr} {ifs : List Expr} {scope : Scope} {own : List (Str × Nat)} {pos : Pos} {wi : TI} {wI : WI} {g : TG} {wg : WG} {L : List Nat} {tt : TT} {wt : WT} {te : TE} {we : WE} (hc : X.calm = true) (hN : X.N.Nodup) (hi : DI X tg iter wi wI) (ok : BlkOk X.N X.env.scope scope own)
    (hg : ∀ (s : Shared) (H : Hp) (C : Addr) (cl : List (Str × Addr)) (fp : List Addr), DG (compX X scope s H C cl fp) tg g wg L) (ht : ∀ (s : Shared) (H : Hp) (C : Addr) (cl : List (Str × Addr)) (fp : List Addr), DTT (compX X scope s H C cl fp) ifs tt wt)
    (he : ∀ (s : Shared) (H : Hp) (C : Addr) (cl : List (Str × Addr)) (fp : List Addr), DE (compX X scope s H C cl fp) elt te we) (hL : ∀ i ∈ L, i ∈ own.map (·.2)) (hs : ∀ x, foldedSetIterable iter X.env x = pure x := by intro _; rfl) :
    DL X (.ListComp elt [⟨tg, iter, ifs, 0⟩] scope pos) (tLc wi g tt te (own.map (·.2))) (wLc wI wg wt we (own.map (·.2))) :=
  ⟨pe_lc hc hN hi.pi ok (fun s H C cl fp => (hg s H C cl fp).pg) (fun s H C cl fp => (ht s H C cl fp).pts) (fun s H C cl fp => (he s H C cl fp).pe) hs,
    sem_lc hi.sem (hg {} (fun _ => none) 0 [] []).sem (ht {} (fun _ => none) 0 [] []).sem (he {} (fun _ => none) 0 [] []).sem hL⟩
end
end W2

set_option Elab.async false
set_option linter.all false
set_option maxRecDepth 100000
/-! W2E: readings over data: statements, what a def promises. -/
namespace W2
open PySem PySem.Spec PyProof.Rows L2

structure WEnds where
  nx : En → Prop
  rt : D → Prop
  bk : En → Prop := fun _ => False
  ct : En → Prop := fun _ => False
abbrev WS := WEnds → En → Prop
structure ContS (K : PySem.W.Frag) (sx : Sx) (H0 F0 F : Hp) (D : WEnds) (R : Ends) : Prop where
  nx : ∀ η' σ' F' H', D.nx η' → Same F F' → Rep K sx H0 F0 F' σ' H' η' → R.nx σ' H'
  bk : ∀ η' σ' F' H', D.bk η' → Same F F' → Rep K sx H0 F0 F' σ' H' η' → R.bk σ' H'
  ct : ∀ η' σ' F' H', D.ct η' → Same F F' → Rep K sx H0 F0 F' σ' H' η' → R.ct σ' H'
  rt : ∀ d v F' H', D.rt d → Ext2 sx F0 H0 F' H' → Dt K F' v d → R.rt v H'
def SemS (K : PySem.W.Frag) (t : TS) (w : WS) : Prop := ∀ {sx : Sx} {H0 F0 F : Hp} {σ : L2.St} {H : Hp} {η : En} {D : WEnds} {R : Ends}, Rep K sx H0 F0 F σ H η → w D η → ContS K sx H0 F0 F D R → t R σ H
structure DS (X : Cx) (st : Stmt) (t : TS) (w : WS) : Prop where
  ps : PS X st t
  sem : SemS X.K t w
structure DSs (X : Cx) (st : List Stmt) (t : TS) (w : WS) : Prop where
  pss : PSs X st t
  sem : SemS X.K t w
theorem ContS.mono {K : PySem.W.Frag} {sx : Sx} {H0 F0 F F1 : Hp} {D : WEnds} {R : Ends} (k : ContS K sx H0 F0 F D R) (e : Same F F1) : ContS K sx H0 F0 F1 D R :=
  ⟨fun η' σ' F' H' q s => k.nx η' σ' F' H' q (e.trans s), fun η' σ' F' H' q s => k.bk η' σ' F' H' q (e.trans s), fun η' σ' F' H' q s => k.ct η' σ' F' H' q (e.trans s), k.rt⟩
def wNext : WS := fun D η => D.nx η
def wSeq (a b : WS) : WS := fun D η => a { D with nx := fun η' => b D η' } η
section
variable {X : Cx} {st : Stmt} {rest : List Stmt} {t u : TS} {a b : WS} {e : Expr} {te : TE} {we : WE} {pos : Pos}
theorem dss_nil : DSs X [] tNext wNext := ⟨pss_nil, fun r hw k => k.nx _ _ _ _ hw (Same.refl _) r⟩
theorem sem_seq {K : PySem.W.Frag} (h1 : SemS K t a) (h2 : SemS K u b) : SemS K (tSeq t u) (wSeq a b) := fun r hw k =>
  h1 r hw ⟨fun η' σ' F' H' q s r' => h2 r' q (k.mono s), k.bk, k.ct, k.rt⟩
theorem dss_cons (h1 : DS X st t a) (h2 : DSs X rest u b) : DSs X (st :: rest) (tSeq t u) (wSeq a b) := ⟨pss_cons h1.ps h2.pss, sem_seq h1.sem h2.sem⟩
theorem dss_one (h1 : DS X st t a) : DSs X [st] t a := ⟨pss_one h1.ps, h1.sem⟩
theorem ds_pass : DS X (.Pass pos) tNext wNext := ⟨ps_pass, fun r hw k => k.nx _ _ _ _ hw (Same.refl _) r⟩
def wBreak : WS := fun D η => D.bk η
def wCont : WS := fun D η => D.ct η
theorem ds_break : DS X (.Break pos) tBreak wBreak := ⟨ps_break, fun r hw k => k.bk _ _ _ _ hw (Same.refl _) r⟩
theorem ds_continue : DS X (.Continue pos) tCont wCont := ⟨ps_continue, fun r hw k => k.ct _ _ _ _ hw (Same.refl _) r⟩
def wNever : WS := fun _ _ => False
theorem ds_never : DS X st tNever wNever := ⟨ps_never, fun _ hw _ => hw.elim⟩
theorem dss_never {sts : List Stmt} : DSs X sts tNever wNever := ⟨pss_never, fun _ hw _ => hw.elim⟩
def wRet (we : WE) : WS := fun D η => we η D.rt
theorem sem_ret {K : PySem.W.Frag} (h : SemE K te we) : SemS K (tRet te) (wRet we) := fun r hw k => h r hw fun d v F' H' q e hd => k.rt d v F' H' q (r.ext e).out hd
theorem ds_ret (h : DE X e te we) : DS X (.Return (some e) pos) (tRet te) (wRet we) := ⟨ps_ret h.pe, sem_ret h.sem⟩
def wRetN : WS := fun D _ => D.rt .none
theorem ds_retN : DS X (.Return none pos) tRetN wRetN := ⟨ps_retN, fun r hw k => k.rt _ _ _ _ hw r.out .non⟩
def wExpr (we : WE) : WS := fun D η => we η fun _ => D.nx η
theorem ds_expr (h : DE X e te we) (hs : swapsWith e none pos.line X.env = pure false := by rfl) : DS X (.Expr e pos) (tDrop te) (wExpr we) :=
  ⟨ps_expr h.pe hs, fun r hw k => h.sem r hw fun d v F' H' q e hd => k.nx _ _ _ _ q e.sF (r.ext e)⟩
def wIf (c : WT) (a b : WS) : WS := fun D η => c η fun k => if k = true then a D η else b D η
theorem ds_if {c : Expr} {xs ys : List Stmt} {tc : TT} {wc : WT} (hc : DTs X c tc wc) (ha : DSs X xs t a) (hb : DSs X ys u b) : DS X (.If c xs ys pos) (tIfS tc t u) (wIf wc a b) :=
  ⟨ps_if hc.pt ha.pss hb.pss, fun r hw k => hc.sem r hw fun j F' H' q e => by
    cases j with
    | true => rw [if_pos rfl] at q ⊢; exact ha.sem (r.ext e) q (k.mono e.sF)
    | false => rw [if_neg Bool.false_ne_true] at q ⊢; exact hb.sem (r.ext e) q (k.mono e.sF)⟩
/-- target = e -/
def wAsg (we : WE) (g : WG) : WS := fun D η => we η fun d => g d η D.nx
theorem sem_asg {K : PySem.W.Frag} {g : TG} {wg : WG} {L : List Nat} (h : SemE K te we) (hg : SemG K g wg L) : SemS K (tAsg te g) (wAsg we wg) := fun r hw k =>
  h r hw fun d v F' H' q e hd => hg (r.ext e) hd q fun σ' η' q' r' _ => k.nx _ _ _ _ q' e.sF r'
theorem ds_set (i : Nat) {x : Str} {pos' : Pos} (hN : X.N.Nodup) (h : DE X e te we) (hi : X.N[i]? = some x := by rfl) (hx : Loc X.env.scope x := by first | exact Or.inl rfl | exact Or.inr rfl) (hs : swapsWith e (some (.Name x pos')) pos.line X.env = pure false := by rfl)
    (hf : X.fn x = true ∨ X.env.scope.names.lookup x = some .local := by first | exact .inl rfl | exact .inr rfl) : DS X (.Assign [.Name x pos'] e pos) (tAsg te (gName i)) (wAsg we (wGn i)) :=
  ⟨ps_set hN hi hx h.pe hs hf, sem_asg h.sem sem_gname⟩
theorem ds_asg {tg : Expr} {g : TG} {wg : WG} {L : List Nat} (h : DE X e te we) (hg : DG X tg g wg L) (hs : swapsWithSole [tg] e pos.line X.env = pure false := by rfl) (hw : swappedStores [tg] e X.env = pure none := by rfl)
    (h1 : (assignEach [tg] X.env).map (·.2) = [assign tg X.env] := by rfl) : DS X (.Assign [tg] e pos) (tAsg te g) (wAsg we wg) := ⟨ps_asg h.pe hg.pg hs hw h1, sem_asg h.sem hg.sem⟩
/-- x = a new list (a new dict), of its own -/
def wAsgL (we : WE) (i : Nat) : WS := fun D η => we η fun d => D.nx (η.set i (.ow d))
theorem sem_asgL {K : PySem.W.Frag} {i : Nat} (h : SemL K te we) : SemS K (tAsg te (gName i)) (wAsgL we i) := fun r hw k =>
  h r hw fun ds xs a F' H' q e h1 h2 h3 h4 => k.nx _ _ _ _ q e.sF (r.setOw e i (d := .list ds) ⟨xs, h1, h2⟩ h3 h4)
theorem sem_asgD {K : PySem.W.Frag} {i : Nat} (h : SemD K te we) : SemS K (tAsg te (gName i)) (wAsgL we i) := fun r hw k =>
  h r hw fun es a F' H' q e h1 h2 h3 => k.nx _ _ _ _ q e.sF (r.setOw e i h1 h2 h3)
theorem ds_setL (i : Nat) {x : Str} {pos' : Pos} (hN : X.N.Nodup) (h : DL X e te we) (hi : X.N[i]? = some x := by rfl) (hx : Loc X.env.scope x := by first | exact Or.inl rfl | exact Or.inr rfl) (hs : swapsWith e (some (.Name x pos')) pos.line X.env = pure false := by rfl)
    (hf : X.fn x = true ∨ X.env.scope.names.lookup x = some .local := by first | exact .inl rfl | exact .inr rfl) : DS X (.Assign [.Name x pos'] e pos) (tAsg te (gName i)) (wAsgL we i) :=
  ⟨ps_set hN hi hx h.pe hs hf, sem_asgL h.sem⟩
theorem ds_setD (i : Nat) {x : Str} {pos' : Pos} (hN : X.N.Nodup) (h : DD X e te we) (hi : X.N[i]? = some x := by rfl) (hx : Loc X.env.scope x := by first | exact Or.inl rfl | exact Or.inr rfl) (hs : swapsWith e (some (.Name x pos')) pos.line X.env = pure false := by rfl)
    (hf : X.fn x = true ∨ X.env.scope.names.lookup x = some .local := by first | exact .inl rfl | exact .inr rfl) : DS X (.Assign [.Name x pos'] e pos) (tAsg te (gName i)) (wAsgL we i) :=
  ⟨ps_set hN hi hx h.pe hs hf, sem_asgD h.sem⟩
/-- x = [.. for ..] on one line, x a local -/
theorem ds_setLc (i : Nat) {y : Str} {py : Pos} {elt tg iter : Expr} {ifs : List Expr} {scope : Scope} {own : List (Str × Nat)} {spos : Pos} {wi : TI} {g : TG} {tt : TT} (hc : X.calm = true) (hN : X.N.Nodup) (hL : DL X (.ListComp elt [⟨tg, iter, ifs, 0⟩] scope pos) (tLc wi g tt te (own.map (·.2))) we)
    (hps : PS X (.Assign [.Name y py] (.ListComp elt [⟨tg, iter, ifs, 0⟩] scope pos) spos) (tAsg (tLc wi g tt te (own.map (·.2))) (gName i))) : DS X (.Assign [.Name y py] (.ListComp elt [⟨tg, iter, ifs, 0⟩] scope pos) spos) (tAsg (tLc wi g tt te (own.map (·.2))) (gName i)) (wAsgL we i) :=
  ⟨hps, sem_asgL hL.sem⟩
end

/-! ### a slot's own object changes -/
section
variable {K : PySem.W.Frag} {sx : Sx} {H0 F0 F H : Hp} {σ : L2.St} {η : En}
theorem Rep.put (r : Rep K sx H0 F0 F σ H η) {i : Nat} {a : Addr} {d d' : D} {o' : HO} (hi : η[i]? = some (.ow d)) (hs : σ[i]? = some (some (.ref a))) (ho : OwnAt K F (upd H a o') a d') : Rep K sx H0 F0 F σ (upd H a o') (η.set i (.ow d')) := by
  obtain ⟨a', e, h1, h2, h3, h4⟩ := r.sl i _ _ hi hs
  cases e
  have il : i < η.length := (List.getElem?_eq_some_iff.mp hi).1
  refine { base := ⟨fun b o q => ?_, ?_, r.base.no⟩, s0 := fun b o q n => ?_, f0 := r.f0, fr := r.fr, len := by rw [List.length_set]; exact r.len, sl := fun j s v q1 q2 => ?_, sep := fun j k d1 d2 b q1 q2 q3 q4 => ?_ }
  · rw [upd_ne (ne_of_none q h2)]; exact r.base.le _ _ q
  · cases sx with
    | none => trivial
    | some p =>
      obtain ⟨a1, b1⟩ := p
      obtain ⟨n, cs, l, m, t, z1, z2, z⟩ := r.base.ok
      exact ⟨n, cs, l, m, t, by rw [upd_ne (fun z => h4 (.inl z.symm))]; exact z1, by rw [upd_ne (fun z => h4 (.inr z.symm))]; exact z2, z⟩
  · rw [upd_ne (ne_of_none q h3)]; exact r.s0 b o q n
  · by_cases e : i = j
    · subst e
      rw [List.getElem?_set_self il] at q1
      cases q1
      rw [hs] at q2
      cases q2
      exact ⟨a, rfl, ho, h2, h3, h4⟩
    · rw [List.getElem?_set_ne e] at q1
      have q := r.sl j s v q1 q2
      cases s with
      | un => trivial
      | fz d => exact q
      | ow d2 =>
        obtain ⟨b, e1, g1, g2, g3, g4⟩ := q
        subst e1
        have nb : b ≠ a := fun z => by
          subst z
          exact e (r.sep i j _ _ _ hi q1 hs q2)
        exact ⟨b, rfl, g1.mono (Same.refl F) fun o z => by rw [upd_ne nb]; exact z, g2, g3, g4⟩
      | src => exact q
  · have old : ∀ (m : Nat) (e : D), (η.set i (.ow d'))[m]? = some (.ow e) → ∃ e', η[m]? = some (.ow e') := fun m e z => by
      by_cases em : i = m
      · subst em; exact ⟨d, hi⟩
      · rw [List.getElem?_set_ne em] at z; exact ⟨e, z⟩
    obtain ⟨e1, z1⟩ := old j d1 q1
    obtain ⟨e2, z2⟩ := old k d2 q2
    exact r.sep j k e1 e2 b z1 z2 q3 q4
/-- a slot's own object is frozen: a list -/
theorem Rep.frzL (r : Rep K sx H0 F0 F σ H η) {i : Nat} {a : Addr} {ds : List D} {xs : List V} (hi : η[i]? = some (.ow (.list ds))) (hs : σ[i]? = some (some (.ref a))) (hH : H a = some (.lst xs)) (hd : DtL K F xs ds) :
    Same F (upd F a (.lst xs)) ∧ Rep K sx H0 F0 (upd F a (.lst xs)) σ H (η.set i (.fz (.list ds))) := by
  obtain ⟨a', e, h1, h2, h3, h4⟩ := r.sl i _ _ hi hs
  cases e
  have il : i < η.length := (List.getElem?_eq_some_iff.mp hi).1
  have sF : Same F (upd F a (.lst xs)) := fun b o q => by rw [upd_ne (ne_of_none q h2)]; exact q
  refine ⟨sF, { base := ⟨fun b o q => ?_, r.base.ok, fun c hc => ?_⟩, s0 := r.s0, f0 := r.f0.trans sF, fr := fun b o q => ?_, len := by rw [List.length_set]; exact r.len, sl := fun j s v q1 q2 => ?_, sep := fun j k d1 d2 b q1 q2 q3 q4 => ?_ }⟩
  · by_cases e : b = a
    · subst e; rw [upd_same] at q; cases q; exact hH
    · rw [upd_ne e] at q; exact r.base.le _ _ q
  · rw [upd_ne (fun e => h4 (by rw [← e]; exact hc))]; exact r.base.no c hc
  · by_cases e : b = a
    · subst e; exact .inr (.inl h3)
    · rw [upd_ne e] at q; exact r.fr b o q
  · by_cases e : i = j
    · subst e
      rw [List.getElem?_set_self il] at q1
      cases q1
      rw [hs] at q2
      cases q2
      exact ⟨.ref a, rfl, .lst upd_same (hd.mono sF)⟩
    · rw [List.getElem?_set_ne e] at q1
      have q := r.sl j s v q1 q2
      cases s with
      | un => trivial
      | fz d => obtain ⟨x, e1, g⟩ := q; exact ⟨x, e1, g.mono sF⟩
      | ow d2 =>
        obtain ⟨b, e1, g1, g2, g3, g4⟩ := q
        subst e1
        have nb : b ≠ a := fun z => by
          subst z
          exact e (r.sep i j _ _ _ hi q1 hs q2)
        exact ⟨b, rfl, g1.mono sF fun o z => z, by rw [upd_ne nb]; exact g2, g3, g4⟩
      | src => exact q
  · have ne : ∀ (m : Nat) (e : D), (η.set i (.fz (.list ds)))[m]? = some (.ow e) → η[m]? = some (.ow e) := fun m e z => by
      by_cases em : i = m
      · subst em; rw [List.getElem?_set_self il] at z; cases z
      · rw [List.getElem?_set_ne em] at z; exact z
    exact r.sep j k d1 d2 b (ne j _ q1) (ne k _ q2) q3 q4
/-- .. a dict: it is locked for good -/
theorem Rep.frzD (r : Rep K sx H0 F0 F σ H η) {i : Nat} {a : Addr} {es : List (D × D)} {u : HO} {o : Obj} (hi : η[i]? = some (.ow (.dict es))) (hs : σ[i]? = some (some (.ref a))) (hH : H a = some u)
    (hd : (∃ kvs, u = .dK kvs ∧ DtK K F kvs es) ∨ ∃ kvs, u = .dT kvs ∧ DtT K F kvs es) :
    Same F (upd F a (.frz o u)) ∧ Rep K sx H0 F0 (upd F a (.frz o u)) σ (upd H a (.frz o u)) (η.set i (.fz (.dict es))) := by
  obtain ⟨a', e, h1, h2, h3, h4⟩ := r.sl i _ _ hi hs
  cases e
  have il : i < η.length := (List.getElem?_eq_some_iff.mp hi).1
  have sF : Same F (upd F a (.frz o u)) := fun b o q => by rw [upd_ne (ne_of_none q h2)]; exact q
  refine ⟨sF, { base := ⟨fun b o q => ?_, ?_, fun c hc => ?_⟩, s0 := fun b o q n => ?_, f0 := r.f0.trans sF, fr := fun b o q => ?_, len := by rw [List.length_set]; exact r.len, sl := fun j s v q1 q2 => ?_, sep := fun j k d1 d2 b q1 q2 q3 q4 => ?_ }⟩
  · by_cases e : b = a
    · subst e; rw [upd_same] at q ⊢; exact q
    · rw [upd_ne e] at q ⊢; exact r.base.le _ _ q
  · cases sx with
    | none => trivial
    | some p =>
      obtain ⟨a1, b1⟩ := p
      obtain ⟨n, cs, l, m, t, z1, z2, z⟩ := r.base.ok
      exact ⟨n, cs, l, m, t, by rw [upd_ne (fun z => h4 (.inl z.symm))]; exact z1, by rw [upd_ne (fun z => h4 (.inr z.symm))]; exact z2, z⟩
  · rw [upd_ne (fun e => h4 (by rw [← e]; exact hc))]; exact r.base.no c hc
  · rw [upd_ne (ne_of_none q h3)]; exact r.s0 b o q n
  · by_cases e : b = a
    · subst e; exact .inr (.inl h3)
    · rw [upd_ne e] at q; exact r.fr b o q
  · by_cases e : i = j
    · subst e
      rw [List.getElem?_set_self il] at q1
      cases q1
      rw [hs] at q2
      cases q2
      refine ⟨.ref a, rfl, ?_⟩
      rcases hd with ⟨kvs, rfl, hd⟩ | ⟨kvs, rfl, hd⟩
      · exact .dK upd_same (hd.mono sF)
      · exact .dT upd_same (hd.mono sF)
    · rw [List.getElem?_set_ne e] at q1
      have q := r.sl j s v q1 q2
      cases s with
      | un => trivial
      | fz d => obtain ⟨x, e1, g⟩ := q; exact ⟨x, e1, g.mono sF⟩
      | ow d2 =>
        obtain ⟨b, e1, g1, g2, g3, g4⟩ := q
        subst e1
        have nb : b ≠ a := fun z => by
          subst z
          exact e (r.sep i j _ _ _ hi q1 hs q2)
        exact ⟨b, rfl, g1.mono sF fun o z => by rw [upd_ne nb]; exact z, by rw [upd_ne nb]; exact g2, g3, g4⟩
      | src => exact q
  · have ne : ∀ (m : Nat) (e : D), (η.set i (.fz (.dict es)))[m]? = some (.ow e) → η[m]? = some (.ow e) := fun m e z => by
      by_cases em : i = m
      · subst em; rw [List.getElem?_set_self il] at z; cases z
      · rw [List.getElem?_set_ne em] at z; exact z
    exact r.sep j k d1 d2 b (ne j _ q1) (ne k _ q2) q3 q4
end
/-- slot i is frozen ahead of what follows -/
def tFrz (i : Nat) (t : TS) : TS := fun D σ H => ∃ a u, σ[i]? = some (some (.ref a)) ∧ H a = some u ∧ ((∃ xs, u = .lst xs ∧ t D σ H) ∨ (Mut (some u) ∧ ∀ o, t D σ (upd H a (.frz o u))))
def wFrz (i : Nat) (w : WS) : WS := fun D η => match η[i]? with
  | some (.ow d) => w D (η.set i (.fz d))
  | _ => False
section
variable {X : Cx} {sts : List Stmt} {t : TS} {w : WS}
theorem pss_frz (i : Nat) (h : PSs X sts t) : PSs X sts (tFrz i t) := ⟨fun pins s σ H D I hw => by
  obtain ⟨a, u, _, hu, q⟩ := hw
  rcases q with ⟨xs, _, q⟩ | ⟨mu, q⟩
  · exact h.run pins s σ H D I q
  · obtain ⟨o, I1⟩ := I.lock hu mu
    exact h.run pins s σ _ D I1 (q o)⟩
theorem dss_frz (i : Nat) (h : DSs X sts t w) : DSs X sts (tFrz i t) (wFrz i w) := ⟨pss_frz i h.pss, fun {sx H0 F0 F σ H η D R} r hw k => by
  unfold wFrz at hw
  split at hw
  · rename_i d hi
    obtain ⟨v, hv, a, e, ho, h2⟩ := r.val hi
    subst e
    cases d with
    | list ds =>
      obtain ⟨xs, hH, hd⟩ := ho
      obtain ⟨sF, r'⟩ := r.frzL hi hv hH hd
      exact ⟨a, _, hv, hH, .inl ⟨xs, rfl, h.sem r' hw (k.mono sF)⟩⟩
    | dict es =>
      rcases ho with ⟨kvs, hH, hd⟩ | ⟨kvs, hH, hd⟩
      · refine ⟨a, _, hv, hH, .inr ⟨trivial, fun o => ?_⟩⟩
        obtain ⟨sF, r'⟩ := r.frzD (o := o) hi hv hH (.inl ⟨kvs, rfl, hd⟩)
        exact h.sem r' hw (k.mono sF)
      · refine ⟨a, _, hv, hH, .inr ⟨trivial, fun o => ?_⟩⟩
        obtain ⟨sF, r'⟩ := r.frzD (o := o) hi hv hH (.inr ⟨kvs, rfl, hd⟩)
        exact h.sem r' hw (k.mono sF)
    | _ => exact ho.elim
  · exact hw.elim⟩
end

/-! ### loops -/
def forGo (g : WG) (body : WS) (D : WEnds) : List PyData → En → Prop
  | [], η => D.nx η
  | d :: ds, η => g d η fun η1 => body { nx := forGo g body D ds, rt := D.rt, bk := D.nx, ct := forGo g body D ds } η1
def wFor (wi : WI) (g : WG) (body : WS) : WS := fun D η => wi η fun ds => forGo g body D ds η
theorem sem_for {K : PySem.W.Frag} {ti : TI} {wi : WI} {g : TG} {wg : WG} {L : List Nat} {tb : TS} {wb : WS} (hi : SemI K ti wi) (hg : SemG K g wg L) (hb : SemS K tb wb) : SemS K (tFor ti g tb) (wFor wi wg wb) := fun {sx H0 F0 F σ H η D R} r hw k => by
  refine hi r hw fun ds J F1 H1 q e1 hit => ?_
  refine ⟨fun i m σ' H' => ∃ F' η', i ≤ ds.length ∧ m = ds.length - i ∧ Same F1 F' ∧ Rep K sx H0 F0 F' σ' H' η' ∧ forGo wg wb D (ds.drop i) η', ⟨ds.length, F1, η, Nat.zero_le _, rfl, Same.refl _, r.ext e1, q⟩, ?_⟩
  rintro i m σ' H' ⟨F', η', h1, hm, sF, r', hq⟩
  by_cases h : i < ds.length
  · rw [List.drop_eq_getElem_cons h] at hq
    refine .inr ⟨hit.go sF r'.base h, fun σ2 H2 => ∃ F2 η2, Same F1 F2 ∧ Rep K sx H0 F0 F2 σ2 H2 η2 ∧ forGo wg wb D (ds.drop (i + 1)) η2, ?_, ?_⟩
    · rintro σ2 H2 ⟨F2, η2, a1, a2, a3⟩
      exact ⟨ds.length - (i + 1), by omega, F2, η2, h, rfl, a1, a2, a3⟩
    · intro x H2 hy
      obtain ⟨F2, e2, hd⟩ := hit.yld sF r'.base (List.getElem?_eq_getElem h) hy
      refine hg (r'.ext e2) hd hq fun σ3 η3 q3 r3 _ => ?_
      have s2 := sF.trans e2.sF
      refine hb r3 q3 ⟨fun η4 σ4 F4 H4 q4 s4 r4 => ⟨F4, η4, s2.trans s4, r4, q4⟩, fun η4 σ4 F4 H4 q4 s4 r4 => k.nx _ _ _ _ q4 (e1.sF.trans (s2.trans s4)) r4, fun η4 σ4 F4 H4 q4 s4 r4 => ⟨F4, η4, s2.trans s4, r4, q4⟩, k.rt⟩
  · have hl : i = ds.length := by omega
    subst hl
    rw [List.drop_length] at hq
    exact .inl ⟨hit.stop sF r'.base, k.nx _ _ _ _ hq (e1.sF.trans sF) r'⟩
theorem ds_for {X : Cx} {tg iter : Expr} {body : List Stmt} {pos : Pos} {ti : TI} {wi : WI} {g : TG} {wg : WG} {L : List Nat} {tb : TS} {wb : WS} (hp : PassesOwn (model X.prog X.w) X.A X.env X.xe) (hc : X.calm = true) (hi : DI X tg iter ti wi) (hg : DG X tg g wg L) (hb : DSs X body tb wb)
    (hs : ∀ x, foldedSetIterable iter X.env x = pure x := by intro _; rfl) : DS X (.For tg iter body [] pos) (tFor ti g tb) (wFor wi wg wb) := ⟨ps_for hp hc hi.pi hg.pg hb.pss hs, sem_for hi.sem hg.sem hb.sem⟩
def wWhile (c : WT) (body : WS) : WS := fun D η => ∃ I : Nat → En → Prop, (∃ m, I m η) ∧ ∀ m η, I m η → c η fun k => if k = true then body { nx := fun η' => ∃ m', m' < m ∧ I m' η', rt := D.rt, bk := D.nx, ct := fun η' => ∃ m', m' < m ∧ I m' η' } η else D.nx η
end W2

set_option Elab.async false
set_option linter.all false
set_option maxRecDepth 100000
/-! W2F: dicts over data; a slot's own list or dict changed. -/
namespace W2
open PySem PySem.Spec PyProof.Rows L2

/-! ### keys -/
def flatKey : D → Bool
  | .int _ => true
  | .str _ => true
  | _ => false
def keyOk : D → Bool
  | .int _ => true
  | .str _ => true
  | .tuple ks => ks.all flatKey
  | _ => false
def kindOk (es : List (D × D)) (k : D) : Bool := es.all fun e => flatKey e.1 == flatKey k
def dGet (es : List (D × D)) (k : D) : Option D := (es.find? fun e => PyData.eqv e.1 k).map (·.2)
def dPut (es : List (D × D)) (k v : D) : List (D × D) := if es.any (fun e => PyData.eqv e.1 k) = true then es.map (fun e => if PyData.eqv e.1 k = true then (e.1, v) else e) else es ++ [(k, v)]
theorem eqv_kD : ∀ (a b : Key), PyData.eqv (kD a) (kD b) = decide (a = b)
  | .inl i, .inl j => by
    show (i == j) = _
    by_cases e : i = j
    · subst e; simp
    · rw [decide_eq_false (fun z => e (Sum.inl.inj z))]; exact beq_eq_false_iff_ne.mpr e
  | .inr i, .inr j => by
    show (i == j) = _
    by_cases e : i = j
    · subst e; simp
    · rw [decide_eq_false (fun z => e (Sum.inr.inj z))]; exact beq_eq_false_iff_ne.mpr e
  | .inl i, .inr j => by
    show false = _
    exact (decide_eq_false (fun z => nomatch z)).symm
  | .inr i, .inl j => by
    show false = _
    exact (decide_eq_false (fun z => nomatch z)).symm
theorem eqvAll_kD : ∀ (a b : List Key), PyData.eqvAll (a.map kD) (b.map kD) = decide (a = b)
  | [], [] => rfl
  | [], _ :: _ => rfl
  | _ :: _, [] => rfl
  | x :: a, y :: b => by
    show (PyData.eqv (kD x) (kD y) && PyData.eqvAll (a.map kD) (b.map kD)) = _
    rw [eqv_kD, eqvAll_kD a b]
    by_cases e : x = y
    · by_cases e' : a = b
      · subst e; subst e'; simp
      · rw [decide_eq_false e', decide_eq_false (fun z => e' (List.cons.inj z).2), Bool.and_false]
    · rw [decide_eq_false e, decide_eq_false (fun z => e (List.cons.inj z).1), Bool.false_and]
theorem eqv_kT (a b : List Key) : PyData.eqv (.tuple (a.map kD)) (.tuple (b.map kD)) = decide (a = b) := eqvAll_kD a b
theorem flat_kD : ∀ (k : Key), flatKey (kD k) = true
  | .inl _ => rfl
  | .inr _ => rfl
theorem flat_of {d : D} (h : flatKey d = true) : ∃ k, d = kD k := by
  cases d <;> first | (cases h; done) | skip
  · exact ⟨.inl _, rfl⟩
  · exact ⟨.inr _, rfl⟩
theorem flats_of : ∀ {ds : List D}, ds.all flatKey = true → ∃ ks : List Key, ds = ks.map kD
  | [], _ => ⟨[], rfl⟩
  | d :: ds, h => by
    rw [List.all_cons, Bool.and_eq_true] at h
    obtain ⟨k, rfl⟩ := flat_of h.1
    obtain ⟨ks, rfl⟩ := flats_of h.2
    exact ⟨k :: ks, rfl⟩
theorem keyOk_cases {d : D} (h : keyOk d = true) : (∃ k, d = kD k) ∨ ∃ ks : List Key, d = .tuple (ks.map kD) := by
  cases d <;> first | (cases h; done) | skip
  · exact .inl ⟨.inl _, rfl⟩
  · exact .inl ⟨.inr _, rfl⟩
  · obtain ⟨ks, rfl⟩ := flats_of h
    exact .inr ⟨ks, rfl⟩
section
variable {K : PySem.W.Frag} {F : Hp}
/-- what stands at a key -/
def RelD (K : PySem.W.Frag) (F : Hp) : Option V → Option D → Prop
  | none, none => True
  | some v, some d => Dt K F v d
  | _, _ => False
theorem DtK.get (k : Key) : ∀ {kvs : List (Key × V)} {es : List (D × D)}, DtK K F kvs es → RelD K F (valV kvs k) (dGet es (kD k))
  | _, _, .nil => trivial
  | _, _, .cons (k := k') (v := v) (r := r) (d := d) (rs := rs) h t => by
    unfold valV dGet
    rw [List.find?_cons, List.find?_cons, eqv_kD]
    by_cases e : k' = k
    · rw [decide_eq_true e]; exact h
    · rw [decide_eq_false e]; exact t.get k
theorem DtT.get (k : List Key) : ∀ {kvs : List (List Key × V)} {es : List (D × D)}, DtT K F kvs es → RelD K F (valV kvs k) (dGet es (.tuple (k.map kD)))
  | _, _, .nil => trivial
  | _, _, .cons (k := k') (v := v) (r := r) (d := d) (rs := rs) h t => by
    unfold valV dGet
    rw [List.find?_cons, List.find?_cons, eqv_kT]
    by_cases e : k' = k
    · rw [decide_eq_true e]; exact h
    · rw [decide_eq_false e]; exact t.get k
theorem DtK.any (k : Key) : ∀ {kvs : List (Key × V)} {es : List (D × D)}, DtK K F kvs es → (kvs.any fun kv => decide (kv.1 = k)) = es.any fun e => PyData.eqv e.1 (kD k)
  | _, _, .nil => rfl
  | _, _, .cons _ t => by rw [List.any_cons, List.any_cons, eqv_kD, t.any k]
theorem DtT.any (k : List Key) : ∀ {kvs : List (List Key × V)} {es : List (D × D)}, DtT K F kvs es → (kvs.any fun kv => decide (kv.1 = k)) = es.any fun e => PyData.eqv e.1 (.tuple (k.map kD))
  | _, _, .nil => rfl
  | _, _, .cons _ t => by rw [List.any_cons, List.any_cons, eqv_kT, t.any k]
theorem DtK.snoc {k : Key} {v : V} {d : D} (h : Dt K F v d) : ∀ {kvs : List (Key × V)} {es : List (D × D)}, DtK K F kvs es → DtK K F (kvs ++ [(k, v)]) (es ++ [(kD k, d)])
  | _, _, .nil => .cons h .nil
  | _, _, .cons a t => .cons a (t.snoc h)
theorem DtT.snoc {k : List Key} {v : V} {d : D} (h : Dt K F v d) : ∀ {kvs : List (List Key × V)} {es : List (D × D)}, DtT K F kvs es → DtT K F (kvs ++ [(k, v)]) (es ++ [(.tuple (k.map kD), d)])
  | _, _, .nil => .cons h .nil
  | _, _, .cons a t => .cons a (t.snoc h)
theorem DtK.over {k : Key} {v : V} {d : D} (h : Dt K F v d) : ∀ {kvs : List (Key × V)} {es : List (D × D)}, DtK K F kvs es → DtK K F (kvs.map fun kv => if kv.1 = k then (kv.1, v) else kv) (es.map fun e => if PyData.eqv e.1 (kD k) = true then (e.1, d) else e)
  | _, _, .nil => .nil
  | _, _, .cons (k := k') a t => by
    rw [List.map_cons, List.map_cons, eqv_kD]
    by_cases e : k' = k
    · simp only [e, decide_true, if_true]
      exact .cons h (t.over h)
    · simp only [e, decide_false, if_false, Bool.false_eq_true]
      exact .cons a (t.over h)
theorem DtT.over {k : List Key} {v : V} {d : D} (h : Dt K F v d) : ∀ {kvs : List (List Key × V)} {es : List (D × D)}, DtT K F kvs es → DtT K F (kvs.map fun kv => if kv.1 = k then (kv.1, v) else kv) (es.map fun e => if PyData.eqv e.1 (.tuple (k.map kD)) = true then (e.1, d) else e)
  | _, _, .nil => .nil
  | _, _, .cons (k := k') a t => by
    rw [List.map_cons, List.map_cons, eqv_kT]
    by_cases e : k' = k
    · simp only [e, decide_true, if_true]
      exact .cons h (t.over h)
    · simp only [e, decide_false, if_false, Bool.false_eq_true]
      exact .cons a (t.over h)
theorem DtK.put {k : Key} {v : V} {d : D} {kvs : List (Key × V)} {es : List (D × D)} (t : DtK K F kvs es) (h : Dt K F v d) : DtK K F (putK kvs k v) (dPut es (kD k) d) := by
  unfold putK dPut
  rw [t.any k]
  by_cases c : (es.any fun e => PyData.eqv e.1 (kD k)) = true
  · rw [if_pos c, if_pos c]; exact t.over h
  · rw [if_neg c, if_neg c]; exact t.snoc h
theorem DtT.put {k : List Key} {v : V} {d : D} {kvs : List (List Key × V)} {es : List (D × D)} (t : DtT K F kvs es) (h : Dt K F v d) : DtT K F (putK kvs k v) (dPut es (.tuple (k.map kD)) d) := by
  unfold putK dPut
  rw [t.any k]
  by_cases c : (es.any fun e => PyData.eqv e.1 (.tuple (k.map kD))) = true
  · rw [if_pos c, if_pos c]; exact t.over h
  · rw [if_neg c, if_neg c]; exact t.snoc h
theorem DtK.kind {k : List Key} : ∀ {kvs : List (Key × V)} {es : List (D × D)}, DtK K F kvs es → kindOk es (.tuple (k.map kD)) = true → kvs = [] ∧ es = []
  | _, _, .nil, _ => ⟨rfl, rfl⟩
  | _, _, .cons (k := k') _ _, h => by
    exfalso
    unfold kindOk at h
    rw [List.all_cons, Bool.and_eq_true] at h
    have h1 := h.1
    rw [flat_kD] at h1
    cases h1
theorem DtT.kind {k : Key} : ∀ {kvs : List (List Key × V)} {es : List (D × D)}, DtT K F kvs es → kindOk es (kD k) = true → kvs = [] ∧ es = []
  | _, _, .nil, _ => ⟨rfl, rfl⟩
  | _, _, .cons (k := k') _ _, h => by
    exfalso
    unfold kindOk at h
    rw [List.all_cons, Bool.and_eq_true] at h
    have h1 := h.1
    rw [flat_kD] at h1
    cases h1
end

/-! ### dicts that are empty take keys of either kind -/
def KeyAt (H : Hp) (y : V) : Prop := (∃ k, y = kV k) ∨ ∃ (k : List Key) (b : Addr), y = .ref b ∧ H b = some (.tup (k.map kV))
def EmptyD (H : Hp) (a : Addr) : Prop := Rd H a (.dK []) ∨ Rd H a (.dT [])
def DGetE (H : Hp) (a : Addr) (y : V) (r : Option V) : Prop := DGet H a y r ∨ (r = none ∧ EmptyD H a ∧ KeyAt H y)
def DPutE (H : Hp) (a : Addr) (y v : V) (H' : Hp) : Prop := DPut H a y v H' ∨
  (∃ (k : List Key) (b : Addr), H a = some (.dK []) ∧ y = .ref b ∧ H b = some (.tup (k.map kV)) ∧ H' = upd H a (.dT [(k, v)])) ∨ ∃ k, H a = some (.dT []) ∧ y = kV k ∧ H' = upd H a (.dK [(k, v)])
section
variable {X : Cx} {pins : List (Addr × Obj)} {σ : L2.St} {H : Hp} {s : Shared} {a : Addr} {y v d : V} {u r : Value} {o : Option V} {A : Around} {E : Value → Shared → Prop}
theorem empty_both {P : Program} {w : World} {h : Heap} (ok : HOk P w H h) (e : EmptyD H a) : (a == sysModules) = false ∧ h.DictOf (mixKind P w) a [] ∧ h.DictOfH (tupleKind (mixKind P w)) a [] := by
  rcases e with e | e
  · obtain ⟨_, hd, vs, rel, dd⟩ := dk_rd ok e
    have : vs = [] := by cases rel; rfl
    subst this
    obtain ⟨ob, es, ep, h1, h2, h3, h4, h5, h6⟩ := id dd
    refine ⟨hd, dd, ob, es, ep, h1, h2, h3, ?_, fun x hx => absurd hx (by simp), List.nodup_nil⟩
    have e0 : es.toList = [] := by
      cases hh : es.toList with
      | nil => rfl
      | cons x r => rw [hh] at h5; cases h5
    rw [e0]; rfl
  · obtain ⟨_, hd, xs, rel, dd⟩ := dt_rd ok e
    have : xs = [] := by cases rel; rfl
    subst this
    obtain ⟨ob, es, ep, h1, h2, h3, h4, h5, h6⟩ := id dd
    have e0 : es.toList = [] := by rw [h4]; rfl
    have e1 : es = #[] := Array.toList_inj.mp (by rw [e0])
    subst e1
    refine ⟨hd, ⟨ob, #[], ep, h1, h2, h3, ?_, ?_, List.nodup_nil⟩, dd⟩
    · first | exact fun i hi => absurd hi (by simp) | (constructor <;> simp) | simp [KeysOf]
    · exact .nil
theorem d_getItemE {Q : Value → Shared → Prop} (hu : A.units + 1 < cLine) (I : Inv X pins σ H s) (g : DGetE H a y (some v)) (ry : RelV y u) (h : ∀ w' s', Inv X pins σ H s' → RelV v w' → Q w' s') :
    wpAny (model X.prog X.w) A (getItem (.ref a) u) Q E s := by
  rcases g with g | ⟨e, _⟩
  · exact d_getItem hu I g ry h
  · cases e
theorem d_inE {Q : Value → Shared → Prop} (hu : A.units + 1 < cLine) (I : Inv X pins σ H s) (g : DGetE H a y o) (ry : RelV y u) (h : ∀ s', Inv X pins σ H s' → Q (.bool o.isSome) s') :
    wpAny (model X.prog X.w) A (compareOp .In u (.ref a)) Q E s := by
  rcases g with g | ⟨rfl, em, ⟨k, rfl⟩ | ⟨k, b, rfl, eb⟩⟩
  · exact d_in hu I g ry h
  · obtain ⟨hd, dd, _⟩ := empty_both I.hok em
    exact wpAny_in_of (kV_is ry) hd dd.mapOf (h _ (I.tok _))
  · cases (show u = Value.ref b from ry)
    obtain ⟨hd, _, dd⟩ := empty_both I.hok em
    exact wpAny_in_heap (tupleKind_room_in1 hu) (key_of I.hok eb) hd dd (h _ (I.tok _))
theorem d_notInE {Q : Value → Shared → Prop} (hu : A.units + 1 < cLine) (I : Inv X pins σ H s) (g : DGetE H a y o) (ry : RelV y u) (h : ∀ s', Inv X pins σ H s' → Q (.bool (!o.isSome)) s') :
    wpAny (model X.prog X.w) A (compareOp .NotIn u (.ref a)) Q E s := by
  rcases g with g | ⟨rfl, em, ⟨k, rfl⟩ | ⟨k, b, rfl, eb⟩⟩
  · exact d_notIn hu I g ry h
  · obtain ⟨hd, dd, _⟩ := empty_both I.hok em
    exact wpAny_notIn_of (kV_is ry) hd dd.mapOf (h _ (I.tok _))
  · cases (show u = Value.ref b from ry)
    obtain ⟨hd, _, dd⟩ := empty_both I.hok em
    exact wpAny_notIn_heap (tupleKind_room_in1 hu) (key_of I.hok eb) hd dd (h _ (I.tok _))
theorem d_get2E {Q : Value → Shared → Prop} (hu : A.units + 1 < cLine) (I : Inv X pins σ H s) (g : DGetE H a y o) (ry : RelV y u) (rd : RelV d r) (h : ∀ w' s', Inv X pins σ H s' → RelV (o.getD d) w' → Q w' s') :
    wpAny (model X.prog X.w) A (call (.builtin "dict.get") [.ref a, u, r]) Q E s := by
  rcases g with g | ⟨rfl, em, ⟨k, rfl⟩ | ⟨k, b, rfl, eb⟩⟩
  · exact d_get2 hu I g ry rd h
  · obtain ⟨hd, dd, _⟩ := empty_both I.hok em
    exact call_meetsIn PySem.F.slot_dict_get dd.typeIs PySem.F.entry_dict_get (PySem.F.args_dict_get_3 _ _ _) (meets_dict_get_default (mixKind X.prog X.w) a (kV_is ry) hd r) ⟨_, dd.mapOf, h _ _ (I.tok _) rd⟩
  · cases (show u = Value.ref b from ry)
    obtain ⟨hd, _, dd⟩ := empty_both I.hok em
    exact call_meetsIn PySem.F.slot_dict_get dd.typeIs PySem.F.entry_dict_get (PySem.F.args_dict_get_3 _ _ _) (meetsH_dict_get_default (tupleKind (mixKind X.prog X.w)) a b hd r) ⟨tupleKind_room_in1 hu, k, [], key_of I.hok eb, dd, h _ _ (I.tok _) rd⟩
theorem d_setItemE {H' : Hp} {Q : Unit → Shared → Prop} (hu : A.units + 1 < cLine) (I : Inv X pins σ H s) (g : DPutE H a y v H') (ry : RelV y u) (rv : RelV v r) (h : ∀ s', Inv X pins σ H' s' → Q () s') :
    wpAny (model X.prog X.w) A (setItem (.ref a) u r) Q E s := by
  rcases g with g | ⟨k, b, e, rfl, eb, rfl⟩ | ⟨k, e, rfl, rfl⟩
  · exact d_setItem hu I g ry rv h
  · cases (show u = Value.ref b from ry)
    obtain ⟨hd, _, dd⟩ := empty_both I.hok (.inl (.inl e))
    refine wpAny_setItem_heap (hsz := Nat.zero_le _) (tupleKind_room_in1 hu) (key_of I.hok eb) dd fun h' dd' hs => h _ ?_
    obtain ⟨q, es, ep, hq, h2, h3, h4, _, h5⟩ := dd'
    have rel0 : KT H ([] : List (List Key × V)) [] := .nil
    refine d_write I (by rw [e]; exact True.intro) hs ⟨q, hq⟩ ⟨by show 1 ≤ sizeLine; decide, hd, _, (KT.keeps (rel0.put k eb rv) fun c ys ec => ?_), q, es, ep, hq, h2, h3, h4, h5⟩
    rw [upd_ne (ne_of ec e (fun z => nomatch z))]
    exact ec
  · obtain ⟨hd, dd, _⟩ := empty_both I.hok (.inr (.inl e))
    refine wpAny_setItem_pairs (hsz := Nat.zero_le _) (kV_is ry) dd fun h' dd' hs => h _ ?_
    have he : ∃ q, h'.get? a = some q := let ⟨q, _, _, hq, _⟩ := dd'; ⟨q, hq⟩
    have rel0 : KV ([] : List (Key × V)) ([] : List (Key × Value)) := .nil
    exact d_write I (by rw [e]; exact True.intro) hs he (dk_new (by show 1 ≤ sizeLine; decide) hd (rel0.put k rv) dd')
end

/-! ### rules -/
/-- a key that is frozen can be asked for -/
theorem Dt.keyAt {K : PySem.W.Frag} {F H : Hp} {y : V} {k : D} (le : Same F H) (h : Dt K F y k) (ok : keyOk k = true) : (∃ i, k = kD i ∧ y = kV i) ∨ ∃ (is : List Key) (b : Addr), k = .tuple (is.map kD) ∧ y = .ref b ∧ H b = some (.tup (is.map kV)) := by
  rcases keyOk_cases ok with ⟨i, rfl⟩ | ⟨is, rfl⟩
  · exact .inl ⟨i, rfl, h.keyV⟩
  · cases h with
    | tup h1 h2 => exact .inr ⟨is, _, rfl, rfl, by rw [← h2.keysV]; exact le _ _ h1⟩
theorem Nw.dgetE {K : PySem.W.Frag} {sx : Sx} {F H : Hp} {x y : V} {es : List (D × D)} {k : D} (b : Base sx F H) (hx : Nw K F H x (.dict es)) (hy : Dt K F y k) (ok : keyOk k = true) (kd : kindOk es k = true) :
    ∃ a o, x = .ref a ∧ IsD H a ∧ DGetE H a y o ∧ RelD K F o (dGet es k) := by
  obtain ⟨a, rfl, hd⟩ := hx.dict b.le
  rcases hd with ⟨kvs, rd, hd⟩ | ⟨kvs, rd, hd⟩
  · rcases hy.keyAt b.le ok with ⟨i, rfl, rfl⟩ | ⟨is, c, rfl, rfl, hc⟩
    · exact ⟨a, _, rfl, .inl ⟨_, rd⟩, .inl (.inl ⟨kvs, i, rd, rfl, rfl⟩), hd.get i⟩
    · obtain ⟨rfl, rfl⟩ := hd.kind kd
      exact ⟨a, Option.none, rfl, .inl ⟨_, rd⟩, .inr ⟨rfl, .inl rd, .inr ⟨is, c, rfl, hc⟩⟩, trivial⟩
  · rcases hy.keyAt b.le ok with ⟨i, rfl, rfl⟩ | ⟨is, c, rfl, rfl, hc⟩
    · obtain ⟨rfl, rfl⟩ := hd.kind kd
      exact ⟨a, Option.none, rfl, .inr ⟨_, rd⟩, .inr ⟨rfl, .inr rd, .inl ⟨i, rfl⟩⟩, trivial⟩
    · exact ⟨a, _, rfl, .inr ⟨_, rd⟩, .inl (.inr ⟨kvs, is, c, rd, rfl, hc, rfl⟩), hd.get is⟩
theorem RelD.some {K : PySem.W.Frag} {F : Hp} {o : Option V} {d : D} (h : RelD K F o (some d)) : ∃ v, o = some v ∧ Dt K F v d := by
  cases o with
  | none => exact h.elim
  | some v => exact ⟨v, rfl, h⟩
theorem RelD.getD {K : PySem.W.Frag} {F : Hp} {o : Option V} {o' : Option D} {z : V} {d : D} (h : RelD K F o o') (hz : Dt K F z d) : Dt K F (o.getD z) (o'.getD d) := by
  cases o <;> cases o' <;> first | exact h.elim | skip
  · exact hz
  · exact h
theorem RelD.isSome {K : PySem.W.Frag} {F : Hp} {o : Option V} {o' : Option D} (h : RelD K F o o') : o.isSome = o'.isSome := by
  cases o <;> cases o' <;> first | exact h.elim | rfl
/-- d.get(k, z) -/
def tDGet2E (td ty tx : TE) : TE := fun σ H Q => td σ H fun x H1 => ∃ a, x = .ref a ∧ IsD H1 a ∧ ty σ H1 fun y H2 => tx σ H2 fun z H3 => ∃ o, DGetE H3 a y o ∧ Q (o.getD z) H3
def wGet2 (wd wk wz : WE) : WE := fun η Q => wd η fun d => match d with
  | .dict es => wk η fun k => wz η fun z => keyOk k = true ∧ kindOk es k = true ∧ Q ((dGet es k).getD z)
  | _ => False
/-- k in d, a dict; d[k] -/
def tDInE (ty td : TE) : TE := fun σ H Q => ty σ H fun y H1 => td σ H1 fun x H2 => ∃ a o, x = .ref a ∧ DGetE H2 a y o ∧ Q (.bl o.isSome) H2
def tDNotInE (ty td : TE) : TE := fun σ H Q => ty σ H fun y H1 => td σ H1 fun x H2 => ∃ a o, x = .ref a ∧ DGetE H2 a y o ∧ Q (.bl (!o.isSome)) H2
section
variable {X : Cx} {o e f i : Expr} {apos cpos pos : Pos} {td ty tx : TE} {wd wk wz : WE}
theorem pe_dget2E (hu : X.A.units + 1 < cLine) (ho : PE X o td) (he : PE X e ty) (hf : PE X f tx) (m : M2 X o "get" apos e f cpos) : PE X (.Call (.Attribute o "get" apos) [e, f] [] cpos) (tDGet2E td ty tx) := by
  refine ⟨fun pins s σ H Q I h => ?_⟩
  refine wpAny_Call_method m.base m.few m.line PySem.F.plainAttrs_dict PySem.F.slot_dict_get PySem.F.type_dict_get (thn (ho.run pins s σ H _ I h) fun u s1 ⟨x, H1, I1, rx, a, ex, d, q1⟩ => ?_)
  subst ex
  obtain rfl : u = Value.ref a := rx
  obtain ⟨t1, t2, _⟩ := isD_at I1 d
  refine ⟨t1, t2, ?_⟩
  rw [m.trees]
  refine Calls.callWith_builtin rfl (Calls.evalArgs_plain (Calls.spliced_cons (thn (he.run pins s1 σ H1 _ I1 q1) fun iv s2 ⟨y, H2, I2, ry, q2⟩ =>
    Calls.spliced_cons (thn (hf.run pins s2 σ H2 _ I2 q2) fun fv s3 ⟨z, H3, I3, rz, ov, g, q3⟩ => Calls.spliced_nil ?_))))
  exact d_get2E hu I3 g ry rz fun w' s4 I4 rw' => ⟨_, H3, I4, rw', q3⟩
theorem de_get2 (hu : X.A.units + 1 < cLine) (ho : DO X o td wd) (he : DE X e ty wk) (hf : DE X f tx wz) (m : M2 X o "get" apos e f cpos) : DE X (.Call (.Attribute o "get" apos) [e, f] [] cpos) (tDGet2E td ty tx) (wGet2 wd wk wz) :=
  ⟨pe_dget2E hu ho.pe he.pe hf.pe m, fun {sx H0 F0 F σ H η Q R} r hw k => ho.sem r hw fun d x F1 H1 q1 e1 o1 => by
    cases d <;> first | exact q1.elim | skip
    rename_i es
    have r1 := r.ext e1
    obtain ⟨a, rfl, hd⟩ := (o1.nw r1).dict r1.base.le
    refine ⟨a, rfl, ?_, he.sem r1 q1 fun kd y F2 H2 q2 e2 hy => hf.sem (r1.ext e2) q2 fun zd z F3 H3 q3 e3 hz => ?_⟩
    · rcases hd with ⟨kvs, rd, _⟩ | ⟨kvs, rd, _⟩
      · exact .inl ⟨_, rd⟩
      · exact .inr ⟨_, rd⟩
    · have r3 := (r1.ext e2).ext e3
      obtain ⟨a', ov, e, _, g, rel⟩ := Nw.dgetE r3.base ((o1.mono (e2.sF.trans e3.sF)).nw r3) (hy.mono e3.sF) q3.1 q3.2.1
      cases e
      exact ⟨ov, g, (k.ext ((e1.trans e2).trans e3)).now r3.base q3.2.2 (rel.getD hz)⟩⟩
end
/-- d[k] = v -/
def rSetD : V → V → V → Hp → (Hp → Prop) → Prop := fun o i v H Q => ∃ a H', o = .ref a ∧ DPutE H a i v H' ∧ Q H'
theorem set_dict {X : Cx} (hu : X.A.units + 1 < cLine) : PSet X rSetD := by
  intro pins s σ H o i v ov iv u Q I ro ri rv h
  obtain ⟨a, H', rfl, g, q⟩ := h
  obtain rfl : ov = Value.ref a := ro
  exact d_setItemE hu I g ri rv fun s4 I4 => ⟨H', I4, q⟩
theorem PSet.or {X : Cx} {t t' : TSet} (h : PSet X t) (h' : PSet X t') : PSet X (fun o i v H Q => t o i v H Q ∨ t' o i v H Q) := by
  intro pins s σ H o i v ov iv u Q I ro ri rv q
  rcases q with q | q
  · exact h pins s σ H o i v ov iv u Q I ro ri rv q
  · exact h' pins s σ H o i v ov iv u Q I ro ri rv q
def rSetA : TSet := fun o i v H Q => rSetL o i v H Q ∨ rSetD o i v H Q
theorem set_any {X : Cx} (hu : X.A.units + 1 < cLine) : PSet X rSetA := PSet.or set_list (set_dict hu)
def gSet : D → D → D → (D → Prop) → Prop
  | .list xs, .int k, v, Q => ∃ j, ixN xs.length k = some j ∧ Q (.list (xs.set j v))
  | .dict es, k, v, Q => keyOk k = true ∧ kindOk es k = true ∧ es.length < sizeLine ∧ Q (.dict (dPut es k v))
  | _, _, _, _ => False
theorem set_sem {K : PySem.W.Frag} {sx : Sx} {F H : Hp} {a : Addr} {y z : V} {d k v : D} {Q : D → Prop} {R : Hp → Prop} (b : Base sx F H) (ho : OwnAt K F H a d) (hy : Dt K F y k) (hz : Dt K F z v) (hg : gSet d k v Q)
    (kk : ∀ d' o', Q d' → OwnAt K F (upd H a o') a d' → R (upd H a o')) : rSetA (.ref a) y z H R := by
  cases d with
  | list xs =>
    obtain ⟨ys, h1, h2⟩ := ho
    cases k <;> first | exact hg.elim | skip
    obtain ⟨j, hj, q⟩ := hg
    cases hy
    exact .inl ⟨a, ys, _, j, rfl, rfl, h1, by rw [h2.length]; exact hj, kk _ _ q ⟨_, upd_same, h2.set hz j⟩⟩
  | dict es =>
    obtain ⟨g1, g2, g3, q⟩ := hg
    refine .inr ?_
    rcases ho with ⟨kvs, h1, h2⟩ | ⟨kvs, h1, h2⟩
    · rcases hy.keyAt b.le g1 with ⟨i, rfl, rfl⟩ | ⟨is, c, rfl, rfl, hc⟩
      · exact ⟨a, _, rfl, .inl (.inl ⟨kvs, i, h1, rfl, by rw [h2.length]; exact g3, rfl⟩), kk _ _ q (.inl ⟨_, upd_same, h2.put hz⟩)⟩
      · obtain ⟨rfl, rfl⟩ := h2.kind g2
        exact ⟨a, _, rfl, .inr (.inl ⟨is, c, h1, rfl, hc, rfl⟩), kk _ _ q (.inr ⟨_, upd_same, .cons hz .nil⟩)⟩
    · rcases hy.keyAt b.le g1 with ⟨i, rfl, rfl⟩ | ⟨is, c, rfl, rfl, hc⟩
      · obtain ⟨rfl, rfl⟩ := h2.kind g2
        exact ⟨a, _, rfl, .inr (.inr ⟨i, h1, rfl, rfl⟩), kk _ _ q (.inl ⟨_, upd_same, .cons hz .nil⟩)⟩
      · exact ⟨a, _, rfl, .inl (.inr ⟨kvs, is, c, h1, rfl, hc, by rw [h2.length]; exact g3, rfl⟩), kk _ _ q (.inr ⟨_, upd_same, h2.put hz⟩)⟩
  | _ => exact ho.elim
/-- x[k] = v, x a slot with an object of its own -/
def wStore (i : Nat) (wk wv : WE) : WS := fun W η => match η[i]? with
  | some (.ow d) => wv η fun v => wk η fun k => gSet d k v fun d' => W.nx (η.set i (.ow d'))
  | _ => False
theorem sem_store {K : PySem.W.Frag} {i : Nat} {tk tv : TE} {wk wv : WE} (hk : SemE K tk wk) (hv : SemE K tv wv) : SemS K (tAsg tv (gSub (tVar i) tk rSetA)) (wStore i wk wv) := fun {sx H0 F0 F σ H η W R} r hw k => by
  unfold wStore at hw
  split at hw
  · rename_i d hi
    refine hv r hw fun v z F1 H1 q1 e1 hz => ?_
    have r1 := r.ext e1
    obtain ⟨sv, hs, a, rfl, ho⟩ := r1.val hi
    refine ⟨.ref a, hs, hk r1 q1 fun kd y F2 H2 q2 e2 hy => ?_⟩
    have r2 := r1.ext e2
    obtain ⟨sv', hs', a', e, ho', _⟩ := r2.val hi
    rw [hs] at hs'
    cases hs'
    cases e
    exact set_sem r2.base ho' hy (hz.mono e2.sF) q2 fun d' o' q' ho'' => k.nx _ _ _ _ q' (e1.sF.trans e2.sF) (r2.put hi hs ho'')
  · exact hw.elim
section
variable {X : Cx} {e i : Expr} {pos opos spos : Pos} {ti tv : TE} {wk wv : WE}
theorem ds_store (j : Nat) {x : Str} (hu : X.A.units + 1 < cLine) (hv : DE X e tv wv) (hk : DE X i ti wk) (hn : PE X (.Name x opos) (tVar j))
    (ha : ∀ v, assign (.Subscript (.Name x opos) i spos) X.env v = (do
      let ov ← holding [v] (eval (.Name x opos) X.env)
      let iv ← holding [v, ov] (eval i X.env)
      standAt spos
      holding [v, ov, iv] (setItem ov iv v)
      release [v, ov, iv] []) := by intros; rfl)
    (hs : swapsWithSole [.Subscript (.Name x opos) i spos] e pos.line X.env = pure false := by rfl) (hw : swappedStores [.Subscript (.Name x opos) i spos] e X.env = pure none := by rfl)
    (h1 : (assignEach [.Subscript (.Name x opos) i spos] X.env).map (·.2) = [assign (.Subscript (.Name x opos) i spos) X.env] := by rfl) :
    DS X (.Assign [.Subscript (.Name x opos) i spos] e pos) (tAsg tv (gSub (tVar j) ti rSetA)) (wStore j wk wv) :=
  ⟨ps_asg hv.pe (pg_sub hn hk.pe (set_any hu) ha) hs hw h1, sem_store hk.sem hv.sem⟩
end

/-! ### methods that change a slot's own list -/
/-- a method of a list that changes it -/
def MutSem (K : PySem.W.Frag) (r : V → List V → Hp → VK → Prop) (g : D → List D → (D → D → Prop) → Prop) : Prop :=
  ∀ {sx : Sx} {F H : Hp} {a : Addr} {vs : List V} {d : D} {ds : List D} {Q : D → D → Prop} {R : VK}, Base sx F H → OwnAt K F H a d → DtL K F vs ds → g d ds Q → (∀ d' y v o', Q d' y → OwnAt K F (upd H a o') a d' → Dt K F v y → R v (upd H a o')) → r (.ref a) vs H R
def gAppend : D → List D → (D → D → Prop) → Prop
  | .list xs, [y], Q => xs.length < sizeLine ∧ Q (.list (xs ++ [y])) .none
  | _, _, _ => False
theorem ms_append {K : PySem.W.Frag} : MutSem K rAppend gAppend := fun {sx F H a vs d ds Q R} b ho hv hg k => by
  cases d <;> first | exact hg.elim | skip
  cases hv with
  | nil => exact hg.elim
  | cons h1 ht =>
    cases ht with
    | cons _ _ => exact hg.elim
    | nil =>
      obtain ⟨xs, hH, hd⟩ := ho
      exact ⟨a, xs, _, rfl, rfl, hH, by rw [hd.length]; exact hg.1, k _ _ _ _ hg.2 ⟨_, upd_same, hd.append (.one h1)⟩ .non⟩
def gExtend : D → List D → (D → D → Prop) → Prop
  | .list xs, [.list ys], Q => xs.length + ys.length ≤ sizeLine ∧ Q (.list (xs ++ ys)) .none
  | _, _, _ => False
theorem ms_extend {K : PySem.W.Frag} : MutSem K rExtend gExtend := fun {sx F H a vs d ds Q R} b ho hv hg k => by
  cases d <;> first | exact hg.elim | skip
  cases hv with
  | nil => exact hg.elim
  | cons h1 ht =>
    cases ht with
    | cons _ _ => rename_i d1 _ _ _ _ _ _; cases d1 <;> exact hg.elim
    | nil =>
      rename_i d1
      cases d1 <;> first | exact hg.elim | skip
      obtain ⟨xs, hH, hd⟩ := ho
      cases h1 with
      | lst h2 h3 => exact ⟨a, _, xs, _, rfl, rfl, hH, b.le _ _ h2, by rw [hd.length, h3.length]; exact hg.1, k _ _ _ _ hg.2 ⟨_, upd_same, hd.append h3⟩ .non⟩
def gPop : D → List D → (D → D → Prop) → Prop
  | .list xs, [], Q => ∃ y, xs[xs.length - 1]? = some y ∧ Q (.list xs.dropLast) y
  | _, _, _ => False
theorem DtL.dropLast {K : PySem.W.Frag} {F : Hp} {vs : List V} {ds : List D} (h : DtL K F vs ds) : DtL K F vs.dropLast ds.dropLast := by
  rw [List.dropLast_eq_take, List.dropLast_eq_take, h.length]
  exact h.take _
theorem ms_pop {K : PySem.W.Frag} : MutSem K rPop gPop := fun {sx F H a vs d ds Q R} b ho hv hg k => by
  cases d <;> first | exact hg.elim | skip
  cases hv with
  | cons _ _ => exact hg.elim
  | nil =>
    obtain ⟨y, hy, q⟩ := hg
    obtain ⟨xs, hH, hd⟩ := ho
    obtain ⟨v, h1, h2⟩ := hd.get _ hy
    exact ⟨a, xs, v, rfl, rfl, hH, by rw [hd.length]; exact h1, k _ _ _ _ q ⟨_, upd_same, hd.dropLast⟩ h2⟩
/-- x.m(e) as a statement -/
def wMut (i : Nat) (g : D → List D → (D → D → Prop) → Prop) (wa : WA) : WS := fun W η => match η[i]? with
  | some (.ow d) => wa η fun ds => g d ds fun d' _ => W.nx (η.set i (.ow d'))
  | _ => False
theorem own_list {K : PySem.W.Frag} {F H : Hp} {a : Addr} {d : D} (h : OwnAt K F H a d) (hl : ∃ ds, d = .list ds) : tyV K "list" (.ref a) H := by
  obtain ⟨ds, rfl⟩ := hl
  obtain ⟨xs, h1, _⟩ := h
  exact .inl ⟨rfl, xs, SqL.of h1⟩
def IsLst : D → Bool
  | .list _ => true
  | _ => false
def wMutE (i : Nat) (g : D → List D → (D → D → Prop) → Prop) (wa : WA) (wg : WG) : WS := fun W η => match η[i]? with
  | some (.ow d) => IsLst d = true ∧ wa η fun ds => g d ds fun d' y => wg y (η.set i (.ow d')) W.nx
  | _ => False
theorem sem_mutE {K : PySem.W.Frag} {i : Nat} {r : V → List V → Hp → VK → Prop} {g : D → List D → (D → D → Prop) → Prop} {ta : TA} {wa : WA} {tg : TG} {wg : WG} {L : List Nat} (ms : MutSem K r g) (ha : SemB K ta wa) (hg : SemG K tg wg L) : SemS K (tAsg (tBM K "list" r (tVar i) ta) tg) (wMutE i g wa wg) := fun {sx H0 F0 F σ H η W R} rp hw k => by
  unfold wMutE at hw
  split at hw
  · rename_i d hi
    obtain ⟨sv, hs, a, rfl, ho, _⟩ := rp.val hi
    refine ⟨.ref a, hs, own_list ho (by cases d <;> first | exact ⟨_, rfl⟩ | (cases hw.1)), ha rp hw.2 fun ds vs F1 H1 q1 e1 hv => ?_⟩
    have r1 := rp.ext e1
    obtain ⟨sv', hs', a', e, ho', _⟩ := r1.val hi
    rw [hs] at hs'
    cases hs'
    cases e
    exact ms r1.base ho' hv q1 fun d' y v o' q' ho'' hy => hg (r1.put hi hs ho'') hy q' fun σ' η' q2 r2 _ => k.nx _ _ _ _ q2 e1.sF r2
  · exact hw.elim
def tgDrop : TG := fun _ σ H Q => Q σ H
theorem sem_drop {K : PySem.W.Frag} : SemG K tgDrop (fun _ η Q => Q η) [] := fun r h hw k => k _ _ hw r fun _ _ => rfl
section
variable {X : Cx} {e : Expr} {es : List Expr} {ta : TA} {wa : WA} {r : V → List V → Hp → VK → Prop} {g : D → List D → (D → D → Prop) → Prop} {name : Str} {apos cpos pos : Pos} {id : String} {o : Expr}
theorem ds_mut (i : Nat) (ms : MutSem X.K r g) (ha : DB X (e :: es) ta wa)
    (hp : PE X (.Call (.Attribute o name apos) (e :: es) [] cpos) (tBM X.K "list" r (tVar i) ta)) (hs : swapsWith (.Call (.Attribute o name apos) (e :: es) [] cpos) none pos.line X.env = pure false := by rfl) :
    DS X (.Expr (.Call (.Attribute o name apos) (e :: es) [] cpos) pos) (tAsg (tBM X.K "list" r (tVar i) ta) tgDrop) (wMutE i g wa fun _ η Q => Q η) :=
  ⟨ps_expr hp hs, sem_mutE ms ha.sem sem_drop⟩
end
end W2

set_option Elab.async false
set_option linter.all false
set_option maxRecDepth 100000
/-! W2G: subscripts, slices, built-in calls, what a def promises, calls of defs. -/
namespace W2
open PySem PySem.Spec PyProof.Rows L2

/-! ### a list's, a tuple's, a text's item -/
def gIx : D → D → (D → Prop) → Prop
  | .list ds, .int i, Q => ∃ d, atI ds i = some d ∧ Q d
  | .tuple ds, .int i, Q => ∃ d, atI ds i = some d ∧ Q d
  | .str z, .int i, Q => z.length ≤ sizeLine ∧ ∃ c, atI z.cps.toList i = some c ∧ Q (.str ⟨#[c]⟩)
  | _, _, _ => False
theorem DtL.atI {K : PySem.W.Frag} {F : Hp} {vs : List V} {ds : List D} (h : DtL K F vs ds) {i : Int} {d : D} (e : L2.atI ds i = some d) : ∃ v, L2.atI vs i = some v ∧ Dt K F v d := by
  unfold L2.atI at e ⊢
  rw [h.length]
  cases q : ixN ds.length i with
  | none => rw [q] at e; cases e
  | some j =>
    rw [q] at e
    exact h.get j e
theorem rs_ix {K : PySem.W.Frag} : RSem K (rIx K) gIx := fun {sx F H x y dx dy Q R} b hx hy hg k => by
  cases dx <;> cases dy <;> first | exact hg.elim | skip
  · cases hx.str; cases hy.int
    obtain ⟨hl, c, e, q⟩ := hg
    exact .inr (.inr ⟨_, _, c, rfl, rfl, hl, e, k.now b q (.str _)⟩)
  · obtain ⟨a, xs, rfl, h1, h2⟩ := hx.list b.le
    cases hy.int
    obtain ⟨d, e, q⟩ := hg
    obtain ⟨v, e', hv⟩ := h2.atI e
    exact .inl ⟨a, xs, _, v, rfl, rfl, SqL.of h1, e', k.now b q hv⟩
  · obtain ⟨a, xs, rfl, h1, h2⟩ := hx.tupleH b.le
    cases hy.int
    obtain ⟨d, e, q⟩ := hg
    obtain ⟨v, e', hv⟩ := h2.atI e
    exact .inr (.inl ⟨a, xs, _, v, rfl, rfl, h1, e', k.now b q hv⟩)
section
variable {X : Cx} {a b : Expr} {ta tb : TE} {wa wb : WE} {pos : Pos}
theorem de_ix (hs : PlainIx b) (ha : DO X a ta wa) (hb : DO X b tb wb) : DE X (.Subscript a b pos) (tOp (rIx X.K) ta tb) (w2 gIx wa wb) := ⟨pe_ix ix_seq ha.pe hb.pe hs, sem_op rs_ix ha.sem hb.sem⟩
end
/-- d[k] -/
def tDGetE (td ty : TE) : TE := fun σ H Q => td σ H fun x H1 => ty σ H1 fun y H2 => ∃ a v, x = .ref a ∧ DGetE H2 a y (some v) ∧ Q v H2
def gIxD : D → D → (D → Prop) → Prop
  | .dict es, k, Q => keyOk k = true ∧ kindOk es k = true ∧ ∃ d, dGet es k = some d ∧ Q d
  | _, _, _ => False
section
variable {X : Cx} {o i : Expr} {pos : Pos} {td ty : TE} {wd wk : WE}
theorem dict_typeIsE {pins : List (Addr × Obj)} {σ : L2.St} {H : Hp} {s : Shared} {a : Addr} {y : V} {r : Option V} (I : Inv X pins σ H s) (g : DGetE H a y r) : s.TypeIs (.ref a) "dict" := by
  rcases g with g | ⟨_, em, _⟩
  · exact dict_typeIs I g
  · obtain ⟨_, dd, _⟩ := empty_both I.hok em
    exact dd.typeIs
theorem pe_dgetE (hu : X.A.units + 1 < cLine) (ho : PE X o td) (hi : PE X i ty) (hs : NoSl i) : PE X (.Subscript o i pos) (tDGetE td ty) := by
  refine ⟨fun pins s σ H Q I h => ?_⟩
  refine subD_of PySem.F.slot_dict_getitem.lookup hs (thn (ho.run pins s σ H _ I h) fun u s1 ⟨x, H1, I1, rx, q1⟩ => thn (hi.run pins s1 σ H1 _ I1 q1) fun iv s2 ⟨y, H2, I2, ry, a, v, ex, g, q2⟩ => ?_)
  subst ex
  obtain rfl : u = Value.ref a := rx
  exact ⟨dict_typeIsE I2 g, d_getItemE hu I2 g ry fun w' s3 I3 rw' => ⟨v, H2, I3, rw', q2⟩⟩
def wIxD (wd wk : WE) : WE := fun η Q => wd η fun d => wk η fun k => gIxD d k Q
theorem de_ixD (hu : X.A.units + 1 < cLine) (hs : NoSl i) (ho : DO X o td wd) (hi : DE X i ty wk) : DE X (.Subscript o i pos) (tDGetE td ty) (wIxD wd wk) :=
  ⟨pe_dgetE hu ho.pe hi.pe hs, fun {sx H0 F0 F σ H η Q R} r hw k => ho.sem r hw fun d x F1 H1 q1 e1 o1 => hi.sem (r.ext e1) q1 fun kd y F2 H2 q2 e2 hy => by
    cases d <;> first | exact q2.elim | skip
    have r2 := (r.ext e1).ext e2
    obtain ⟨g1, g2, z, g3, q⟩ := q2
    obtain ⟨a, ov, rfl, _, g, rel⟩ := Nw.dgetE r2.base ((o1.mono e2.sF).nw r2) hy g1 g2
    rw [g3] at rel
    obtain ⟨v, rfl, hv⟩ := rel.some
    exact ⟨a, v, rfl, g, (k.ext (e1.trans e2)).now r2.base q hv⟩⟩
/-- either: by what the value is -/
theorem pe_or {X : Cx} {e : Expr} {t t' : TE} (h : PE X e t) (h' : PE X e t') : PE X e (fun σ H Q => t σ H Q ∨ t' σ H Q) := ⟨fun pins s σ H Q I hw => by
  rcases hw with hw | hw
  · exact h.run pins s σ H Q I hw
  · exact h'.run pins s σ H Q I hw⟩
/-- k in d, k not in d -/
def rDIn (neg : Bool) : R2 := fun y x H Q => ∃ a o, x = .ref a ∧ DGetE H a y o ∧ Q (.bl (if neg then !o.isSome else o.isSome)) H
theorem op_dIn (hu : X.A.units + 1 < cLine) : OpR X (compareOp .In) (rDIn false) := by
  intro pins s σ H y x v u Q I ry rx h
  obtain ⟨a, o, rfl, g, q⟩ := h
  obtain rfl : u = Value.ref a := rx
  exact d_inE hu I g ry fun s' I' => ⟨.bl _, H, I', rfl, q⟩
theorem op_dNotIn (hu : X.A.units + 1 < cLine) : OpR X (compareOp .NotIn) (rDIn true) := by
  intro pins s σ H y x v u Q I ry rx h
  obtain ⟨a, o, rfl, g, q⟩ := h
  obtain rfl : u = Value.ref a := rx
  exact d_notInE hu I g ry fun s' I' => ⟨.bl _, H, I', rfl, q⟩
end
/-- in, not in: a list, a tuple, a dict -/
def rInT (K : PySem.W.Frag) (neg : Bool) : R2 := fun x y H Q => ∃ d ds, Dp K H x d ∧ Dp K H y (.tuple ds) ∧ SeqAt.shaped d = true ∧ SeqAt.shaped (.tuple ds) = true ∧ Q (.bl (if neg then !ds.any (fun z => PyData.eqv z d) else ds.any fun z => PyData.eqv z d)) H
theorem op_inTup {X : Cx} (hu : X.A.units + 65 < cLine) : OpR X (compareOp .In) (rInT X.K false) := fun pins s σ H x y v u Q I rx ry h => by
  obtain ⟨d, ds, hd, he, sd, se, q⟩ := h
  obtain ⟨_, r1⟩ := Dp.reads I d x v hd rx
  obtain ⟨_, r2⟩ := Dp.reads I _ y u he ry
  exact SeqAt.in_tuple_reads r2 r1 (SeqAt.canLay_of_shaped se) (SeqAt.canLay_of_shaped sd) (PyProof.Rows.room_in_shaped sd hu) ⟨.bl _, H, I, rfl, q⟩
theorem op_notInTup {X : Cx} (hu : X.A.units + 65 < cLine) : OpR X (compareOp .NotIn) (rInT X.K true) := fun pins s σ H x y v u Q I rx ry h => by
  obtain ⟨d, ds, hd, he, sd, se, q⟩ := h
  obtain ⟨_, r1⟩ := Dp.reads I d x v hd rx
  obtain ⟨_, r2⟩ := Dp.reads I _ y u he ry
  exact SeqAt.notIn_tuple_reads r2 r1 (SeqAt.canLay_of_shaped se) (SeqAt.canLay_of_shaped sd) (PyProof.Rows.room_in_shaped sd hu) ⟨.bl _, H, I, rfl, q⟩
def rInA (K : PySem.W.Frag) : R2 := fun x y H Q => rInD K x y H Q ∨ rInT K false x y H Q ∨ rDIn false x y H Q
def rNotInA (K : PySem.W.Frag) : R2 := fun x y H Q => rNotInD K x y H Q ∨ rInT K true x y H Q ∨ rDIn true x y H Q
theorem op_inA {X : Cx} (hu : X.A.units + 65 < cLine) : OpR X (compareOp .In) (rInA X.K) := OpR.or (op_inD hu) (OpR.or (op_inTup hu) (op_dIn (by omega)))
theorem op_notInA {X : Cx} (hu : X.A.units + 65 < cLine) : OpR X (compareOp .NotIn) (rNotInA X.K) := OpR.or (op_notInD hu) (OpR.or (op_notInTup hu) (op_dNotIn (by omega)))
def gInA (neg : Bool) : D → D → (D → Prop) → Prop
  | x, .list ds, Q => SeqAt.shaped x = true ∧ SeqAt.shaped (.list ds) = true ∧ Q (.bool (if neg then !ds.any (fun z => PyData.eqv z x) else ds.any fun z => PyData.eqv z x))
  | x, .tuple ds, Q => SeqAt.shaped x = true ∧ SeqAt.shaped (.tuple ds) = true ∧ Q (.bool (if neg then !ds.any (fun z => PyData.eqv z x) else ds.any fun z => PyData.eqv z x))
  | x, .dict es, Q => keyOk x = true ∧ kindOk es x = true ∧ Q (.bool (if neg then !(dGet es x).isSome else (dGet es x).isSome))
  | _, _, _ => False
/-- a two-place reading whose first place is frozen -/
def RSem1 (K : PySem.W.Frag) (r : R2) (g : D → D → (D → Prop) → Prop) : Prop :=
  ∀ {sx : Sx} {F H : Hp} {x y : V} {dx dy : D} {Q : D → Prop} {R : VK}, Base sx F H → Dt K F x dx → Nw K F H y dy → g dx dy Q → Cont K sx F H Q R → r x y H R
theorem sem_op1 {K : PySem.W.Frag} {r : R2} {g : D → D → (D → Prop) → Prop} {ta tb : TE} {wa wb : WE} (hs : RSem1 K r g) (ha : SemE K ta wa) (hb : SemO K tb wb) : SemE K (tOp r ta tb) (w2 g wa wb) := fun {sx H0 F0 F σ H η Q R} rp hw k =>
  ha rp hw fun dx x F1 H1 q1 e1 o1 => hb (rp.ext e1) q1 fun dy y F2 H2 q2 e2 o2 =>
    let r2 := (rp.ext e1).ext e2
    hs r2.base (o1.mono e2.sF) (o2.nw r2) q2 (k.ext (e1.trans e2))
theorem rs_in {K : PySem.W.Frag} : RSem1 K (rInA K) (gInA false) := fun {sx F H x y dx dy Q R} b hx hy hg k => by
  cases dy <;> first | exact hg.elim | skip
  · obtain ⟨h1, h2, q⟩ := hg
    exact .inl ⟨_, _, hx.dp b.le (SeqAt.canLay_of_shaped h1), hy.dp b.le (SeqAt.canLay_of_shaped h2), h1, h2, k.now b q (.bl _)⟩
  · obtain ⟨h1, h2, q⟩ := hg
    exact .inr (.inl ⟨_, _, hx.dp b.le (SeqAt.canLay_of_shaped h1), hy.dp b.le (SeqAt.canLay_of_shaped h2), h1, h2, k.now b q (.bl _)⟩)
  · obtain ⟨h1, h2, q⟩ := hg
    obtain ⟨a, o, rfl, _, g, rel⟩ := Nw.dgetE b hy hx h1 h2
    refine .inr (.inr ⟨a, o, rfl, g, k.now b (d := .bool (dGet _ dx).isSome) q ?_⟩)
    rw [← rel.isSome]
    exact .bl _
theorem rs_notIn {K : PySem.W.Frag} : RSem1 K (rNotInA K) (gInA true) := fun {sx F H x y dx dy Q R} b hx hy hg k => by
  cases dy <;> first | exact hg.elim | skip
  · obtain ⟨h1, h2, q⟩ := hg
    exact .inl ⟨_, _, hx.dp b.le (SeqAt.canLay_of_shaped h1), hy.dp b.le (SeqAt.canLay_of_shaped h2), h1, h2, k.now b q (.bl _)⟩
  · obtain ⟨h1, h2, q⟩ := hg
    exact .inr (.inl ⟨_, _, hx.dp b.le (SeqAt.canLay_of_shaped h1), hy.dp b.le (SeqAt.canLay_of_shaped h2), h1, h2, k.now b q (.bl _)⟩)
  · obtain ⟨h1, h2, q⟩ := hg
    obtain ⟨a, o, rfl, _, g, rel⟩ := Nw.dgetE b hy hx h1 h2
    refine .inr (.inr ⟨a, o, rfl, g, k.now b (d := .bool (!(dGet _ dx).isSome)) q ?_⟩)
    rw [← rel.isSome]
    exact .bl _
section
variable {X : Cx} {a b : Expr} {ta tb : TE} {wa wb : WE} {pos : Pos}
theorem de_cmp1 {op : CmpOp} {r : R2} {g : D → D → (D → Prop) → Prop} (ho : OpR X (compareOp op) r) (hs : RSem1 X.K r g) (hm : behindInMarks op b = false) (ha : DE X a ta wa) (hb : DO X b tb wb) : DE X (.Compare a [op] [b] pos) (tOp r ta tb) (w2 g wa wb) := ⟨pe_cmpR ho ha.pe hb.pe hm, sem_op1 hs ha.sem hb.sem⟩
theorem dt_cmp1 {op : CmpOp} {r : R2} {g : D → D → (D → Prop) → Prop} (ho : OpR X (compareOp op) r) (hs : RSem1 X.K r g) (hm : behindInMarks op b = false) (ha : DE X a ta wa) (hb : DO X b tb wb) : DTs X (.Compare a [op] [b] pos) (tTest (tOp r ta tb)) (wTrB (w2 g wa wb)) :=
  ⟨pt_cmpR ho ha.pe hb.pe hm, sem_testB (sem_op1 hs ha.sem hb.sem)⟩
end

/-! ### slices -/
def cutD (ds : List D) (lo hi : Option Int) : List D := (ds.drop (HT.sIx ds.length 0 lo)).take (HT.sIx ds.length ds.length hi - HT.sIx ds.length 0 lo)
theorem DtL.cut {K : PySem.W.Frag} {F : Hp} {vs : List V} {ds : List D} (h : DtL K F vs ds) (lo hi : Option Int) : DtL K F (cutV vs lo hi) (cutD ds lo hi) := by
  unfold cutV cutD
  rw [h.length]
  exact (h.drop _).take _
abbrev WO := En → (Option Int → Prop) → Prop
def SemPO (K : PySem.W.Frag) (t : TO) (w : WO) : Prop := ∀ {sx : Sx} {H0 F0 F : Hp} {σ : L2.St} {H : Hp} {η : En} {Q : Option Int → Prop} {R : Option Int → Hp → Prop}, Rep K sx H0 F0 F σ H η → w η Q → (∀ b F' H', Q b → Ext2 sx F H F' H' → R b H') → t σ H R
structure DPO (X : Cx) (e : Option Expr) (t : TO) (w : WO) : Prop where
  po : PO X e t
  sem : SemPO X.K t w
def wNoPart : WO := fun _ Q => Q none
def wPart (we : WE) : WO := fun η Q => we η fun d => match d with
  | .int i => Q (some i)
  | _ => False
def gSl (d : D) (lo hi : Option Int) (Q : D → Prop) : Prop := match d with
  | .list ds => Q (.list (cutD ds lo hi))
  | .tuple ds => Q (.tuple (cutD ds lo hi))
  | _ => False
def wSl (we : WE) (wl wh : WO) : WE := fun η Q => we η fun d => wl η fun lo => wh η fun hi => gSl d lo hi Q
def gSlL (d : D) (lo hi : Option Int) (Q : D → Prop) : Prop := match d with
  | .list ds => Q (.list (cutD ds lo hi))
  | _ => False
def wSlL (we : WE) (wl wh : WO) : WE := fun η Q => we η fun d => wl η fun lo => wh η fun hi => gSlL d lo hi Q
def rSlB (K : PySem.W.Frag) : V → Option Int → Option Int → Hp → VK → Prop := fun x lo hi H Q => rSlL K x lo hi H Q ∨ rSlA K x lo hi H Q
section
variable {X : Cx} {e : Expr} {lo hi : Option Expr} {te : TE} {we : WE} {tl th : TO} {wl wh : WO} {pos p2 : Pos}
theorem dpo_none : DPO X none tNoPart wNoPart := ⟨po_none, fun r hw k => k none _ _ hw (.refl r.base)⟩
theorem dpo_some (h : DO X e te we) : DPO X (some e) (tPart te) (wPart we) := ⟨po_some h.pe, fun {sx H0 F0 F σ H η Q R} r hw k => h.sem r hw fun d v F1 H1 q e o => by
  cases d <;> first | exact q.elim | skip
  cases (o.nw (r.ext e)).int
  exact ⟨_, rfl, k _ F1 H1 q e⟩⟩
theorem DtL.cut_all {K : PySem.W.Frag} {F : Hp} {vs : List V} {ds : List D} (h : DtL K F vs ds) {lo hi : Option Int} (c : HT.sIx vs.length 0 lo = 0 ∧ HT.sIx vs.length vs.length hi = vs.length) : cutD ds lo hi = ds := by
  unfold cutD
  rw [← h.length, c.1, c.2, List.drop_zero, Nat.sub_zero, h.length, List.take_length]
theorem de_slice (he : DO X e te we) (hl : DPO X lo tl wl) (hh : DPO X hi th wh) : DE X (.Subscript e (.Slice lo hi none p2) pos) (tSl (rSlB X.K) te tl th) (wSl we wl wh) :=
  ⟨pe_slice (SlR.or sl_list sl_tupA) he.pe hl.po hh.po, fun {sx H0 F0 F σ H η Q R} r hw k => he.sem r hw fun d v F1 H1 q1 e1 o1 => hl.sem (r.ext e1) q1 fun l F2 H2 q2 e2 => hh.sem ((r.ext e1).ext e2) q2 fun u F3 H3 q3 e3 => by
    have r3 := ((r.ext e1).ext e2).ext e3
    have k3 := k.ext ((e1.trans e2).trans e3)
    have nw := (o1.mono (e2.sF.trans e3.sF)).nw r3
    cases d <;> first | exact q3.elim | skip
    · obtain ⟨a, xs, rfl, h1, h2⟩ := nw.list r3.base.le
      exact .inl ⟨a, xs, rfl, SqL.of h1, k3.list.new r3.base q3 (h2.cut _ _)⟩
    · obtain ⟨a, xs, rfl, h1, h2⟩ := nw.tuple
      refine .inr ⟨a, xs, rfl, SqT.of (r3.base.le _ _ h1), fun c => ?_, fun _ => k3.tup r3.base q3 (h2.cut _ _)⟩
      have q3' : Q (.tuple _) := q3
      rw [h2.cut_all c] at q3'
      exact k3.now r3.base q3' (.tup h1 h2)⟩
theorem dl_slice (he : DO X e te we) (hl : DPO X lo tl wl) (hh : DPO X hi th wh) : DL X (.Subscript e (.Slice lo hi none p2) pos) (tSl (rSlL X.K) te tl th) (wSlL we wl wh) :=
  ⟨pe_slice sl_list he.pe hl.po hh.po, fun {sx H0 F0 F σ H η Q R} r hw k => he.sem r hw fun d v F1 H1 q1 e1 o1 => hl.sem (r.ext e1) q1 fun l F2 H2 q2 e2 => hh.sem ((r.ext e1).ext e2) q2 fun u F3 H3 q3 e3 => by
    have r3 := ((r.ext e1).ext e2).ext e3
    have k3 := k.ext ((e1.trans e2).trans e3)
    have nw := (o1.mono (e2.sF.trans e3.sF)).nw r3
    cases d <;> first | exact q3.elim | skip
    obtain ⟨a, xs, rfl, h1, h2⟩ := nw.list r3.base.le
    exact ⟨a, xs, rfl, SqL.of h1, k3.new r3.base q3 (h2.cut _ _)⟩⟩
/-- xs[::-1] of a list -/
def wRevL (we : WE) : WE := fun η Q => we η fun d => match d with
  | .list ds => Q (.list ds.reverse)
  | _ => False
theorem dl_rev {k : Nat} {p1 p3 p4 : Pos} (he : DO X e te we) : DL X (.Subscript e (.Slice none none (some (.UnaryOp .USub (.Constant (.int 1) k p1) p2)) p3) pos) (tRevL X.K te) (wRevL we) :=
  ⟨pe_revL he.pe, fun {sx H0 F0 F σ H η Q R} r hw k => he.sem r hw fun d v F1 H1 q e o => by
    cases d <;> first | exact q.elim | skip
    obtain ⟨a, xs, rfl, h1, h2⟩ := (o.nw (r.ext e)).list (r.ext e).base.le
    exact ⟨a, xs, rfl, SqL.of h1, (k.ext e).new (r.ext e).base q h2.reverse⟩⟩
end

/-! ### calls of built-ins -/
def CSem (K : PySem.W.Frag) (r : List V → Hp → VK → Prop) (g : List D → (D → Prop) → Prop) : Prop :=
  ∀ {sx : Sx} {F H : Hp} {vs : List V} {ds : List D} {Q : D → Prop} {R : VK}, Base sx F H → Paired (Nw K F H) vs ds → g ds Q → Cont K sx F H Q R → r vs H R
def CSemL (K : PySem.W.Frag) (r : List V → Hp → VK → Prop) (g : List D → (D → Prop) → Prop) : Prop :=
  ∀ {sx : Sx} {F H : Hp} {vs : List V} {ds : List D} {Q : D → Prop} {R : VK}, Base sx F H → Paired (Nw K F H) vs ds → g ds Q → ContL K sx F H Q R → r vs H R
def wCall (g : List D → (D → Prop) → Prop) (wa : WA) : WE := fun η Q => wa η fun ds => g ds Q
section
variable {X : Cx} {e : Expr} {es : List Expr} {ta : TA} {wa : WA} {r : List V → Hp → VK → Prop} {g : List D → (D → Prop) → Prop} {x : Str} {p pos : Pos} {id T : String}
theorem OpL.nws {K : PySem.W.Frag} {sx : Sx} {H0 F0 F H : Hp} {σ : L2.St} {η : En} {vs : List V} {ds : List D} (h : OpL K F σ η vs ds) (r : Rep K sx H0 F0 F σ H η) : Paired (Nw K F H) vs ds := Paired.mapP h fun _ _ z => z.nw r
theorem sem_cb {K : PySem.W.Frag} (hs : CSem K r g) (ha : SemA K ta wa) : SemE K (tCB r ta) (wCall g wa) := fun {sx H0 F0 F σ H η Q R} rp hw k => ha rp hw fun ds vs F1 H1 q e o => hs (rp.ext e).base (o.nws (rp.ext e)) q (k.ext e)
theorem sem_cbL {K : PySem.W.Frag} (hs : CSemL K r g) (ha : SemA K ta wa) : SemL K (tCB r ta) (wCall g wa) := fun {sx H0 F0 F σ H η Q R} rp hw k => ha rp hw fun ds vs F1 H1 q e o => hs (rp.ext e).base (o.nws (rp.ext e)) q (k.ext e)
theorem de_callB (hc : CallR X (.builtin id) r) (hs : CSem X.K r g) (hv : bootBuiltins x = some (.builtin id)) (hg : Gl X x) (hm : X.mg x = none) (ha : DA X (e :: es) ta wa) (hn : x ≠ "__name__" := by decide) (hdb : (x == ("__debug__" : Str)) = false := by decide)
    (he : starEach (e :: es) X.env = (false, eval e X.env) :: starEach es X.env := by rfl) (hpl : (backTo pos (starEach es X.env)).any (·.1) = false := by rfl) : DE X (.Call (.Name x p) (e :: es) [] pos) (tCB r ta) (wCall g wa) :=
  ⟨pe_callB hc hg hm hv ha.pa hn hdb he hpl, sem_cb hs ha.sem⟩
theorem de_callT (hc : CallR X (.type T) r) (hs : CSem X.K r g) (hv : bootBuiltins x = some (.type T)) (hg : Gl X x) (hm : X.mg x = none) (ha : DA X (e :: es) ta wa) (hn : x ≠ "__name__" := by decide) (hdb : (x == ("__debug__" : Str)) = false := by decide)
    (he : starEach (e :: es) X.env = (false, eval e X.env) :: starEach es X.env := by rfl) (hpl : (backTo pos (starEach es X.env)).any (·.1) = false := by rfl) : DE X (.Call (.Name x p) (e :: es) [] pos) (tCB r ta) (wCall g wa) :=
  ⟨pe_callTy hc hg hm hv ha.pa hn hdb he hpl, sem_cb hs ha.sem⟩
theorem dl_callB (hc : CallR X (.builtin id) r) (hs : CSemL X.K r g) (hv : bootBuiltins x = some (.builtin id)) (hg : Gl X x) (hm : X.mg x = none) (ha : DA X (e :: es) ta wa) (hn : x ≠ "__name__" := by decide) (hdb : (x == ("__debug__" : Str)) = false := by decide)
    (he : starEach (e :: es) X.env = (false, eval e X.env) :: starEach es X.env := by rfl) (hpl : (backTo pos (starEach es X.env)).any (·.1) = false := by rfl) : DL X (.Call (.Name x p) (e :: es) [] pos) (tCB r ta) (wCall g wa) :=
  ⟨pe_callB hc hg hm hv ha.pa hn hdb he hpl, sem_cbL hs ha.sem⟩
theorem dl_callT (hc : CallR X (.type T) r) (hs : CSemL X.K r g) (hv : bootBuiltins x = some (.type T)) (hg : Gl X x) (hm : X.mg x = none) (ha : DA X (e :: es) ta wa) (hn : x ≠ "__name__" := by decide) (hdb : (x == ("__debug__" : Str)) = false := by decide)
    (he : starEach (e :: es) X.env = (false, eval e X.env) :: starEach es X.env := by rfl) (hpl : (backTo pos (starEach es X.env)).any (·.1) = false := by rfl) : DL X (.Call (.Name x p) (e :: es) [] pos) (tCB r ta) (wCall g wa) :=
  ⟨pe_callTy hc hg hm hv ha.pa hn hdb he hpl, sem_cbL hs ha.sem⟩
end
theorem Nws.one {K : PySem.W.Frag} {F H : Hp} {vs : List V} {d : D} (h : Paired (Nw K F H) vs [d]) : ∃ v, vs = [v] ∧ Nw K F H v d := by
  cases h with
  | cons h1 h2 => cases h2; exact ⟨_, rfl, h1⟩
theorem Nws.two {K : PySem.W.Frag} {F H : Hp} {vs : List V} {d e : D} (h : Paired (Nw K F H) vs [d, e]) : ∃ v w, vs = [v, w] ∧ Nw K F H v d ∧ Nw K F H w e := by
  cases h with
  | cons h1 h2 =>
    obtain ⟨w, rfl, h3⟩ := Nws.one h2
    exact ⟨_, w, rfl, h1, h3⟩
/-- len -/
def gLen : List D → (D → Prop) → Prop
  | [.list ds], Q => Q (.int ds.length)
  | [.tuple ds], Q => Q (.int ds.length)
  | [.str z], Q => z.length ≤ sizeLine ∧ Q (.int z.length)
  | _, _ => False
def rLenA (K : PySem.W.Frag) : List V → Hp → VK → Prop := fun xs H Q => (∃ p ys, xs = [.ref p] ∧ (SqL K H p ys ∨ SqT K H p ys) ∧ Q (.int ys.length) H) ∨ ∃ z, xs = [.str z] ∧ z.length ≤ sizeLine ∧ Q (.int z.length) H
theorem cr_len {X : Cx} : CallR X (.builtin "len") (rLenA X.K) := CallR.or call_len_seq call_len_str
theorem cs_len {K : PySem.W.Frag} : CSem K (rLenA K) gLen := fun {sx F H vs ds Q R} b h hg k => by
  unfold gLen at hg
  split at hg
  · obtain ⟨v, rfl, h1⟩ := Nws.one h
    obtain ⟨a, xs, rfl, h2, h3⟩ := h1.list b.le
    refine .inl ⟨a, xs, rfl, .inl (SqL.of h2), ?_⟩
    rw [h3.length]
    exact k.now b hg (.int _)
  · obtain ⟨v, rfl, h1⟩ := Nws.one h
    obtain ⟨a, xs, rfl, h2, h3⟩ := h1.tupleH b.le
    refine .inl ⟨a, xs, rfl, .inr h2, ?_⟩
    rw [h3.length]
    exact k.now b hg (.int _)
  · obtain ⟨v, rfl, h1⟩ := Nws.one h
    cases h1.str
    exact .inr ⟨_, rfl, hg.1, k.now b hg.2 (.int _)⟩
  · exact hg.elim
/-- tuple(x), list(x): of a list or a tuple -/
def gTuple : List D → (D → Prop) → Prop
  | [.list ds], Q => Q (.tuple ds)
  | [.tuple ds], Q => Q (.tuple ds)
  | _, _ => False
def gList : List D → (D → Prop) → Prop
  | [.list ds], Q => Q (.list ds)
  | [.tuple ds], Q => Q (.list ds)
  | _, _ => False
theorem cs_tuple {K : PySem.W.Frag} : CSem K (fun xs H Q => ∃ p ys, xs = [.ref p] ∧ ((SqL K H p ys ∧ ∀ l, H l = none → Q (.ref l) (upd H l (.tup ys))) ∨ (SqT K H p ys ∧ Q (.ref p) H))) gTuple := fun {sx F H vs ds Q R} b h hg k => by
  unfold gTuple at hg
  split at hg
  · obtain ⟨v, rfl, h1⟩ := Nws.one h
    obtain ⟨a, xs, rfl, h2, h3⟩ := h1.list b.le
    exact ⟨a, xs, rfl, .inl ⟨SqL.of h2, k.tup b hg h3⟩⟩
  · obtain ⟨v, rfl, h1⟩ := Nws.one h
    obtain ⟨a, xs, rfl, h2, h3⟩ := h1.tuple
    exact ⟨a, xs, rfl, .inr ⟨SqT.of (b.le _ _ h2), k.now b hg (.tup h2 h3)⟩⟩
  · exact hg.elim
theorem cs_list {K : PySem.W.Frag} : CSemL K (fun xs H Q => ∃ p ys, xs = [.ref p] ∧ (SqL K H p ys ∨ SqT K H p ys) ∧ ∀ l, H l = none → Q (.ref l) (upd H l (.lst ys))) gList := fun {sx F H vs ds Q R} b h hg k => by
  unfold gList at hg
  split at hg
  · obtain ⟨v, rfl, h1⟩ := Nws.one h
    obtain ⟨a, xs, rfl, h2, h3⟩ := h1.list b.le
    exact ⟨a, xs, rfl, .inl (SqL.of h2), k.new b hg h3⟩
  · obtain ⟨v, rfl, h1⟩ := Nws.one h
    obtain ⟨a, xs, rfl, h2, h3⟩ := h1.tupleH b.le
    exact ⟨a, xs, rfl, .inr h2, k.new b hg h3⟩
  · exact hg.elim
/-- int(n), int(flag) -/
def gInt : List D → (D → Prop) → Prop
  | [.int i], Q => Q (.int i)
  | [.bool b], Q => Q (.int (if b then 1 else 0))
  | _, _ => False
theorem cs_int {K : PySem.W.Frag} : CSem K (fun xs H Q => (∃ i, xs = [.int i] ∧ Q (.int i) H) ∨ ∃ k, xs = [.bl k] ∧ Q (.int (if k then 1 else 0)) H) gInt := fun {sx F H vs ds Q R} b h hg k => by
  unfold gInt at hg
  split at hg
  · obtain ⟨v, rfl, h1⟩ := Nws.one h
    cases h1.int
    exact .inl ⟨_, rfl, k.now b hg (.int _)⟩
  · obtain ⟨v, rfl, h1⟩ := Nws.one h
    cases h1.bool
    exact .inr ⟨_, rfl, k.now b hg (.int _)⟩
  · exact hg.elim
def gAbs : List D → (D → Prop) → Prop
  | [.int i], Q => Q (.int (if i < 0 then -i else i))
  | _, _ => False
theorem cs_abs {K : PySem.W.Frag} : CSem K (fun xs H Q => ∃ i, xs = [.int i] ∧ Q (.int (if i < 0 then -i else i)) H) gAbs := fun {sx F H vs ds Q R} b h hg k => by
  unfold gAbs at hg
  split at hg
  · obtain ⟨v, rfl, h1⟩ := Nws.one h
    cases h1.int
    exact ⟨_, rfl, k.now b hg (.int _)⟩
  · exact hg.elim
def gMax2 : List D → (D → Prop) → Prop
  | [.int i, .int j], Q => Q (.int (if j > i then j else i))
  | _, _ => False
def gMin2 : List D → (D → Prop) → Prop
  | [.int i, .int j], Q => Q (.int (if j < i then j else i))
  | _, _ => False
theorem cs_max2 {K : PySem.W.Frag} : CSem K (fun xs H Q => ∃ i j, xs = [.int i, .int j] ∧ Q (.int (if j > i then j else i)) H) gMax2 := fun {sx F H vs ds Q R} b h hg k => by
  unfold gMax2 at hg
  split at hg
  · obtain ⟨v, w, rfl, h1, h2⟩ := Nws.two h
    cases h1.int; cases h2.int
    exact ⟨_, _, rfl, k.now b hg (.int _)⟩
  · exact hg.elim
theorem cs_min2 {K : PySem.W.Frag} : CSem K (fun xs H Q => ∃ i j, xs = [.int i, .int j] ∧ Q (.int (if j < i then j else i)) H) gMin2 := fun {sx F H vs ds Q R} b h hg k => by
  unfold gMin2 at hg
  split at hg
  · obtain ⟨v, w, rfl, h1, h2⟩ := Nws.two h
    cases h1.int; cases h2.int
    exact ⟨_, _, rfl, k.now b hg (.int _)⟩
  · exact hg.elim
end W2

set_option Elab.async false
set_option linter.all false
set_option maxRecDepth 100000
/-! W2H: what a def promises over data, and its calls. -/
namespace W2
open PySem PySem.Spec PyProof.Rows L2

/-- a def's promise, where no repr is under way -/
structure FnG (P : Program) (w : World) (K : PySem.W.Frag) (mg : Str → Option Value) (base : Heap) (k : Nat) (f : Addr) (fd : FuncData) (ps : List Str) (sp : Sp) : Prop where
  len : ∀ vs H Q E, sp vs H Q E → vs.length = ps.length
  run : ∀ (A : Around) (outer : List Env) (s : Shared) (H : Hp) (args : Args) (us : List Value) (vs : List V) (Q : VK), Room k A → A.guards = some [] → L2.Env0 P w K mg base A outer s H → BindsTo s fd args (ps.zip us) → Vals vs us → sp vs H Q E0 →
    codeAny (model P w) A (.call (.ref f) args) (CR CX0 outer P w H s Q E0) s
theorem FnG.mono {P : Program} {w : World} {K : PySem.W.Frag} {mg : Str → Option Value} {base : Heap} {j k : Nat} {f : Addr} {fd : FuncData} {ps : List Str} {sp : Sp} (F : FnG P w K mg base j f fd ps sp) (h : j ≤ k) : FnG P w K mg base k f fd ps sp :=
  ⟨F.len, fun A outer s H args us vs Q hr => F.run A outer s H args us vs Q (hr.mono h)⟩
theorem fnG_of {P : Program} {w : World} {K : PySem.W.Frag} {mg : Str → Option Value} {base : Heap} {k : Nat} {f : Addr} {x qual : Str} {st : Stmt} {fd : FuncData} {N ps : List Str} {sp : Sp} (F : Fun K x qual st f fd) (S : FnScope N ps (defScope st)) (len : ∀ vs H Q E, sp vs H Q E → vs.length = ps.length)
    (hbody : ∀ (cdv : Value) (A : Around) (outer : List Env) (s : Shared) (H : Hp) (vs : List V) (Q : VK), Room k (A.deeper (envOfC qual (defScope st) s.heap.objs.size f cdv)) → (A.deeper (envOfC qual (defScope st) s.heap.objs.size f cdv)).guards = some [] → sp vs H Q E0 →
      ∃ t, PSs (cxOf CX0 P w K mg base N qual (defScope st) f cdv A outer s H E0).nox (defBody st) t ∧ t { nx := fun _ H' => Q .non H', rt := Q } (L2.start N vs) H) : FnG P w K mg base (k + 1) f fd ps sp := by
  obtain ⟨oc, od, kV, doc, pm, an, cdv, ct, osl, rfl, lk, hcd⟩ := F.ex
  refine ⟨len, fun A outer s H args us vs Q hr hG e0 hb r hsp => ?_⟩
  have inK : K.In s.heap := e0.mod.kin.keeps fun b o e => (e0.bs b o e).1
  have hkind : ∀ y ∈ ps.zip us, (defScope st).names.lookup y.1 = some .local ∨ ((defScope st).names.lookup y.1 = some .cell ∧ ((cellsFrom (s.heap.objs.size + 1) (defScope st).names []).lookup y.1).isSome = true) := by
    rintro ⟨n, v⟩ hy
    rcases S.par n (List.of_mem_zip hy).1 with q | q
    · exact .inl q
    · exact .inr ⟨q, PySem.W.cellsFrom_some _ _ _ (.inl q)⟩
  refine codeAny_call_function hr.depth (inK _ _ lk) rfl S.co S.gen rfl (PySem.W.codeRec_of inK hcd) (hb _ _ _ _ (wpAny_newFunctionEnv_cells S.kind hkind fun env he s1 y => ?_))
  subst he
  refine ⟨(e0.mod.nolimit.keeps fun b o e => (e0.bs b o e).1).keeps y.toInCall.keep, codeAny_func ?_⟩
  obtain ⟨t, ht, hq⟩ := hbody cdv A outer s H vs Q (hr.deeper _) hG hsp
  have I : Inv (cxOf CX0 P w K mg base N qual (defScope st) f cdv A outer s H E0) [] (L2.start N vs) H s1 := inv_start S hr.hd e0 (len _ _ _ _ hsp) r y
  have out : ∀ {σ' : L2.St} {H' : Hp} {v : V} {u : Value} {s' : Shared}, Inv (cxOf CX0 P w K mg base N qual (defScope st) f cdv A outer s H E0) [] σ' H' s' → RelV v u → Q v H' → CE outer P w H s Q u s' :=
    fun J rv q => ⟨_, _, J.os, J.bare, J.base, J.hok, rv, q⟩
  refine wpAny_mono (ht.nox.run [] s1 (L2.start N vs) H _ I hq) (fun fl s' hs => ?_) fun e s' hs => hs
  cases fl with
  | ret u => obtain ⟨v, σ', H', J, rv, q⟩ := hs; exact out J rv q
  | next => obtain ⟨σ', H', J, q⟩ := hs; exact out (v := V.non) (u := Value.none) J rfl q
  | brk => obtain ⟨_, _, _, q⟩ := hs; exact q.elim
  | cont => obtain ⟨_, _, _, q⟩ := hs; exact q.elim
section
variable {X : Cx} {k : Nat} {f : Addr} {fd : FuncData} {ps : List Str} {sp : Sp} {x : Str} {p pos : Pos} {e : Expr} {es : List Expr} {t : TA}
theorem runG {pins : List (Addr × Obj)} {σ : L2.St} {H : Hp} {s : Shared} {Q : VK} {us : List Value} {vs : List V} (F : FnG X.prog X.w X.K X.mg X.base k f fd ps sp) (hr : Room k X.A) (hG : X.A.guards = some []) (hb : Binds X.K fd ps [])
    (I : Inv X pins σ H s) (r : Vals vs us) (h : sp vs H Q E0) : wpAny (model X.prog X.w) X.A (call (.ref f) us) (EP X pins σ Q) X.xe s := by
  have hl : us.length = ps.length := by rw [← r.length]; exact F.len _ _ _ _ h
  have hb' := hb s us I.kIn (by simpa using hl)
  rw [List.append_nil] at hb'
  refine wpAny_call (codeAny_mono (F.run X.A X.stack s H ⟨us, []⟩ us vs Q hr hG I.env0 hb' r h) fun q s' hq => ?_)
  cases q with
  | error e => exact False.elim hq
  | ok fl =>
    cases fl with
    | ret u => exact I.after hq
    | _ => exact False.elim hq
theorem pe_callG (F : FnG X.prog X.w X.K X.mg X.base k f fd ps sp) (hr : Room k X.A) (hG : X.A.guards = some []) (hg : Gl X x) (hm : X.mg x = some (.ref f)) (hk : PySem.W.keepIn X.K (.ref f) = true) (hb : Binds X.K fd ps [])
    (ha : PA X (e :: es) t) (hdb : (x == ("__debug__" : Str)) = false := by decide) (he : starEach (e :: es) X.env = (false, eval e X.env) :: starEach es X.env := by rfl) (hpl : (backTo pos (starEach es X.env)).any (·.1) = false := by rfl) :
    PE X (.Call (.Name x p) (e :: es) [] pos) (tCall sp [] E0 t) := ⟨fun pins s σ H Q I h =>
  wpAny_Call_Name_kw (ld_glob I hg hm (PySem.W.callWith_K (h₀ := X.base) I.ok.mod.kin hk (thn (ha.run pos pins s σ H _ I h) fun us s1 ⟨vs, H1, I1, r, q⟩ => ⟨I1.kIn, runG F hr hG hb I1 r (by rw [← List.append_nil vs]; exact q)⟩) he hpl) hdb)⟩
end

/-! ### promises over data -/
abbrev WF := List D → (D → Prop) → Prop
def spW (K : PySem.W.Frag) (n : Nat) (w : WF) : Sp := fun vs H Q _ => ∃ (F : Hp) (ds : List D) (P : D → Prop), Base none F H ∧ DtL K F vs ds ∧ ds.length = n ∧ w ds P ∧ Cont K none F H P Q
/-- the first argument is the source -/
def spS (K : PySem.W.Frag) (n : Nat) (w : WF) : Sp := fun vs H Q _ => ∃ (a b : Addr) (vs' : List V) (F : Hp) (ds : List D) (P : D → Prop), vs = .ref a :: vs' ∧ Base (some (a, b)) F H ∧ DtL K F vs' ds ∧ ds.length = n ∧ w ds P ∧ Cont K (some (a, b)) F H P Q
def startE (N : List Str) (ds : List Slot) : En := ds ++ List.replicate (N.length - ds.length) .un
theorem rep_start {K : PySem.W.Frag} {F H : Hp} {N : List Str} {vs : List V} {ds : List D} (b : Base none F H) (h : DtL K F vs ds) : Rep K none H F F (L2.start N vs) H (startE N (ds.map .fz)) where
  base := b
  s0 := fun _ _ q _ => q
  f0 := Same.refl F
  fr := fun _ _ q => .inl q
  len := by
    unfold L2.start startE
    simp only [List.length_append, List.length_map, List.length_replicate, h.length]
  sl := fun i s v h1 h2 => by
    unfold startE at h1
    unfold L2.start at h2
    by_cases hi : i < ds.length
    · rw [List.getElem?_append_left (by simpa using hi), List.getElem?_map] at h1
      rw [List.getElem?_append_left (by simpa [h.length] using hi), List.getElem?_map] at h2
      cases q : ds[i]? with
      | none => rw [q] at h1; cases h1
      | some d =>
        rw [q] at h1
        cases h1
        obtain ⟨x, hx, hd⟩ := h.get i q
        rw [hx] at h2
        cases h2
        exact ⟨x, rfl, hd⟩
    · rw [List.getElem?_append_right (by simpa using hi), List.getElem?_replicate] at h1
      split at h1
      · cases h1; trivial
      · cases h1
  sep := fun i j d e a h1 _ _ _ => by
    exfalso
    unfold startE at h1
    by_cases hi : i < ds.length
    · rw [List.getElem?_append_left (by simpa using hi), List.getElem?_map] at h1
      cases q : ds[i]? with
      | none => rw [q] at h1; cases h1
      | some d => rw [q] at h1; cases h1
    · rw [List.getElem?_append_right (by simpa using hi), List.getElem?_replicate] at h1
      split at h1
      · cases h1
      · cases h1
theorem rep_startS {K : PySem.W.Frag} {F H : Hp} {N : List Str} {a b : Addr} {vs : List V} {ds : List D} (bs : Base (some (a, b)) F H) (h : DtL K F vs ds) : Rep K (some (a, b)) H F F (L2.start N (.ref a :: vs)) H (startE N (.src :: ds.map .fz)) where
  base := bs
  s0 := fun _ _ q _ => q
  f0 := Same.refl F
  fr := fun _ _ q => .inl q
  len := by
    unfold L2.start startE
    simp only [List.length_append, List.length_map, List.length_replicate, List.length_cons, h.length]
  sl := fun i s v h1 h2 => by
    unfold startE at h1
    unfold L2.start at h2
    cases i with
    | zero =>
      simp at h1 h2
      subst h1 h2
      exact ⟨a, b, rfl, rfl⟩
    | succ i =>
      by_cases hi : i < ds.length
      · rw [List.getElem?_append_left (by simpa using hi), List.getElem?_cons_succ, List.getElem?_map] at h1
        rw [List.getElem?_append_left (by simpa [h.length] using hi), List.map_cons, List.getElem?_cons_succ, List.getElem?_map] at h2
        cases q : ds[i]? with
        | none => rw [q] at h1; cases h1
        | some d =>
          rw [q] at h1
          cases h1
          obtain ⟨x, hx, hd⟩ := h.get i q
          rw [hx] at h2
          cases h2
          exact ⟨x, rfl, hd⟩
      · rw [List.getElem?_append_right (by simpa using hi), List.getElem?_replicate] at h1
        split at h1
        · cases h1; trivial
        · cases h1
  sep := fun i j d e a h1 _ _ _ => by
    exfalso
    unfold startE at h1
    cases i with
    | zero => simp at h1
    | succ i =>
      by_cases hi : i < ds.length
      · rw [List.getElem?_append_left (by simpa using hi), List.getElem?_cons_succ, List.getElem?_map] at h1
        cases q : ds[i]? with
        | none => rw [q] at h1; cases h1
        | some d => rw [q] at h1; cases h1
      · rw [List.getElem?_append_right (by simpa using hi), List.getElem?_replicate] at h1
        split at h1
        · cases h1
        · cases h1
/-- A DEF WITHOUT THE SOURCE keeps its promise: its body's reading over data, and that it does what w says -/
theorem fn_pure {P : Program} {w : World} {K : PySem.W.Frag} {mg : Str → Option Value} {base : Heap} {k : Nat} {f : Addr} {x qual : Str} {st : Stmt} {fd : FuncData} {N ps : List Str} {wf : WF} {wb : WS} (F : Fun K x qual st f fd) (S : FnScope N ps (defScope st))
    (hbody : ∀ (cdv : Value) (A : Around) (outer : List Env) (s : Shared) (H : Hp), Room k (A.deeper (envOfC qual (defScope st) s.heap.objs.size f cdv)) → (A.deeper (envOfC qual (defScope st) s.heap.objs.size f cdv)).guards = some [] →
      ∃ t, DSs (cxOf CX0 P w K mg base N qual (defScope st) f cdv A outer s H E0).nox (defBody st) t wb)
    (hw : ∀ ds Q, ds.length = ps.length → wf ds Q → wb { nx := fun _ => Q .none, rt := Q } (startE N (ds.map .fz))) : FnG P w K mg base (k + 1) f fd ps (spW K ps.length wf) := by
  refine fnG_of F S (fun vs H Q E h => ?_) fun cdv A outer s H vs Q hr hG h => ?_
  · obtain ⟨F, ds, P, _, hd, hl, _⟩ := h
    rw [hd.length, hl]
  · obtain ⟨F, ds, P, b, hd, hl, hp, k⟩ := h
    obtain ⟨t, ht⟩ := hbody cdv A outer s H hr hG
    refine ⟨t, ht.pss, ht.sem (rep_start b hd) (hw ds P hl hp) ⟨fun η' σ' F' H' q _ r => ?_, fun _ _ _ _ q => q.elim, fun _ _ _ _ q => q.elim, fun d v F' H' q e h => k d v F' H' q e h⟩⟩
    exact k _ _ F' H' q r.out .non
theorem fn_src {P : Program} {w : World} {K : PySem.W.Frag} {mg : Str → Option Value} {base : Heap} {k : Nat} {f : Addr} {x qual : Str} {st : Stmt} {fd : FuncData} {N ps : List Str} {p0 : Str} {wf : WF} {wb : WS} (F : Fun K x qual st f fd) (S : FnScope N (p0 :: ps) (defScope st))
    (hbody : ∀ (cdv : Value) (A : Around) (outer : List Env) (s : Shared) (H : Hp), Room k (A.deeper (envOfC qual (defScope st) s.heap.objs.size f cdv)) → (A.deeper (envOfC qual (defScope st) s.heap.objs.size f cdv)).guards = some [] →
      ∃ t, DSs (cxOf CX0 P w K mg base N qual (defScope st) f cdv A outer s H E0).nox (defBody st) t wb)
    (hw : ∀ ds Q, ds.length = ps.length → wf ds Q → wb { nx := fun _ => Q .none, rt := Q } (startE N (.src :: ds.map .fz))) : FnG P w K mg base (k + 1) f fd (p0 :: ps) (spS K ps.length wf) := by
  refine fnG_of F S (fun vs H Q E h => ?_) fun cdv A outer s H vs Q hr hG h => ?_
  · obtain ⟨a, b, vs', F, ds, P, rfl, _, hd, hl, _⟩ := h
    rw [List.length_cons, List.length_cons, hd.length, hl]
  · obtain ⟨a, b, vs', F, ds, P, rfl, bb, hd, hl, hp, k⟩ := h
    obtain ⟨t, ht⟩ := hbody cdv A outer s H hr hG
    refine ⟨t, ht.pss, ht.sem (rep_startS bb hd) (hw ds P hl hp) ⟨fun η' σ' F' H' q _ r => ?_, fun _ _ _ _ q => q.elim, fun _ _ _ _ q => q.elim, fun d v F' H' q e h => k d v F' H' q e h⟩⟩
    exact k _ _ F' H' q r.out .non

/-! ### calls -/
def wFn (n : Nat) (wf : WF) (wa : WA) : WE := fun η Q => wa η fun ds => ds.length = n ∧ wf ds Q
def isFlat : D → Bool
  | .none => true
  | .bool _ => true
  | .int _ => true
  | .str _ => true
  | _ => false
def wFnB (n : Nat) (wf : WF) (wa : WA) : WE := fun η Q => wa η fun ds => ds.length = n ∧ wf ds fun d => isFlat d = true ∧ Q d
theorem Base.none {sx : Sx} {F H : Hp} (b : Base sx F H) : Base none F H := ⟨b.le, trivial, fun _ h => h.elim⟩
theorem Cont.pure {K : PySem.W.Frag} {sx : Sx} {F H : Hp} {Q : D → Prop} {R : VK} (k : Cont K sx F H Q R) (b : Base sx F H) : Cont K none F H Q R := fun d v F' H' q e h => k d v F' H' q (e.pure b) h
theorem sem_fn {K : PySem.W.Frag} {n : Nat} {wf : WF} {ta : TA} {wa : WA} (ha : SemB K ta wa) : SemE K (tCall (spW K n wf) [] E0 ta) (wFn n wf wa) := fun {sx H0 F0 F σ H η Q R} r hw k => ha r hw fun ds vs F1 H1 q e hd => by
  rw [List.append_nil]
  exact ⟨F1, ds, Q, (r.ext e).base.none, hd, q.1, q.2, (k.ext e).pure (r.ext e).base⟩
section
variable {X : Cx} {k n : Nat} {f : Addr} {fd : FuncData} {ps : List Str} {wf : WF} {x : Str} {p pos : Pos} {e : Expr} {es : List Expr} {ta : TA} {wa : WA}
theorem de_fn (G : FnG X.prog X.w X.K X.mg X.base k f fd ps (spW X.K n wf)) (hr : Room k X.A) (hG : X.A.guards = some []) (hm : X.mg x = some (.ref f)) (hk : PySem.W.keepIn X.K (.ref f) = true) (hb : Binds X.K fd ps []) (hg : Gl X x) (ha : DB X (e :: es) ta wa)
    (hdb : (x == ("__debug__" : Str)) = false := by decide) (he : starEach (e :: es) X.env = (false, eval e X.env) :: starEach es X.env := by rfl) (hpl : (backTo pos (starEach es X.env)).any (·.1) = false := by rfl) :
    DE X (.Call (.Name x p) (e :: es) [] pos) (tCall (spW X.K n wf) [] E0 ta) (wFn n wf wa) := ⟨pe_callG G hr hG hg hm hk hb ha.pa hdb he hpl, sem_fn ha.sem⟩
end
/-- lists of slots' own lent to a def that hands back no object -/
def lendF (vs : List V) (F H : Hp) : Hp := fun b => match F b with
  | some o => some o
  | none => if V.ref b ∈ vs then (match H b with | some (.lst xs) => some (.lst xs) | _ => none) else none
theorem lend_same {vs : List V} {F H : Hp} : Same F (lendF vs F H) := fun b o h => by unfold lendF; rw [h]
theorem lend_le {vs : List V} {F H : Hp} (le : Same F H) : Same (lendF vs F H) H := fun b o h => by
  unfold lendF at h
  cases q : F b with
  | some u => rw [q] at h; cases h; exact le _ _ q
  | none =>
    rw [q] at h
    dsimp only at h
    split at h
    · split at h
      · rename_i z; rw [← h]; exact z
      · cases h
    · cases h
/-- no dict of a slot's own among the arguments -/
def noDict : D → Bool
  | .dict _ => false
  | _ => true
theorem lend_dt {K : PySem.W.Frag} {sx : Sx} {H0 F0 F H : Hp} {σ : L2.St} {η : En} (r : Rep K sx H0 F0 F σ H η) (all : List V) : ∀ {vs : List V} {ds : List D}, OpL K F σ η vs ds → (∀ v ∈ vs, v ∈ all) → (∀ (i : Nat) (d : D), η[i]? = some (Slot.ow d) → d ∈ ds → noDict d = true) → DtL K (lendF all F H) vs ds
  | _, _, .nil, _, _ => .nil
  | _, _, .cons (a := v) (b := d) h t, hm, hn => by
    refine .cons ?_ (lend_dt r all t (fun v hv => hm v (List.mem_cons_of_mem _ hv)) fun i d hi hd => hn i d hi (List.mem_cons_of_mem _ hd))
    rcases h with h | ⟨i, a, h1, h2, rfl⟩
    · exact h.mono lend_same
    · obtain ⟨a', e, ho, hf, _⟩ := r.sl i _ _ h1 h2
      cases e
      have nd := hn i d h1 List.mem_cons_self
      cases d with
      | list ds =>
        obtain ⟨xs, hH, hd⟩ := ho
        refine .lst ?_ (hd.mono lend_same)
        unfold lendF
        rw [hf]
        dsimp only
        rw [if_pos (hm _ List.mem_cons_self), hH]
      | dict es => cases nd
      | _ => exact ho.elim
theorem flat_dt {K : PySem.W.Frag} {F F' : Hp} {v : V} {d : D} (h : Dt K F v d) (f : isFlat d = true) : Dt K F' v d := by
  cases h <;> first | (cases f; done) | constructor
def ownDicts (η : En) : Bool := η.all fun s => match s with
  | .ow (.dict _) => false
  | _ => true
theorem sem_fnB {K : PySem.W.Frag} {n : Nat} {wf : WF} {ta : TA} {wa : WA} (ha : SemA K ta wa) : SemE K (tCall (spW K n wf) [] E0 ta) (fun η Q => ownDicts η = true ∧ wFnB n wf wa η Q) := fun {sx H0 F0 F σ H η Q R} r hw k => ha r hw.2 fun ds vs F1 H1 q e ho => by
  rw [List.append_nil]
  have r1 := r.ext e
  refine ⟨lendF vs F1 H1, ds, fun d => isFlat d = true ∧ Q d, ⟨lend_le r1.base.le, trivial, fun _ h => h.elim⟩, lend_dt r1 vs ho (fun _ h => h) (fun i d hi _ => ?_), q.1, q.2, fun d v F' H' q' e' h => ?_⟩
  · have h1 := List.all_eq_true.mp hw.1 _ (List.mem_of_getElem? hi)
    cases d <;> first | rfl | (cases h1)
  · have e2 : Ext2 none F1 H1 F1 H' := ⟨Same.refl _, e'.sH, fun b o z => e'.sH _ _ (r1.base.le _ _ z) (fun z => z), fun _ _ z => .inl z, trivial⟩
    exact k d v F1 H' q'.2 (e.trans (e2.pure r1.base)) (flat_dt h q'.1)
section
variable {X : Cx} {k n : Nat} {f : Addr} {fd : FuncData} {ps : List Str} {wf : WF} {x : Str} {p pos : Pos} {e : Expr} {es : List Expr} {ta : TA} {wa : WA}
theorem de_fnB (G : FnG X.prog X.w X.K X.mg X.base k f fd ps (spW X.K n wf)) (hr : Room k X.A) (hG : X.A.guards = some []) (hm : X.mg x = some (.ref f)) (hk : PySem.W.keepIn X.K (.ref f) = true) (hb : Binds X.K fd ps []) (hg : Gl X x) (ha : DA X (e :: es) ta wa)
    (hdb : (x == ("__debug__" : Str)) = false := by decide) (he : starEach (e :: es) X.env = (false, eval e X.env) :: starEach es X.env := by rfl) (hpl : (backTo pos (starEach es X.env)).any (·.1) = false := by rfl) :
    DE X (.Call (.Name x p) (e :: es) [] pos) (tCall (spW X.K n wf) [] E0 ta) (fun η Q => ownDicts η = true ∧ wFnB n wf wa η Q) := ⟨pe_callG G hr hG hg hm hk hb ha.pa hdb he hpl, sem_fnB ha.sem⟩
end
/-- a def that takes the source -/
def wFnS (i n : Nat) (wf : WF) (wa : WA) : WE := fun η Q => match η[i]? with
  | some .src => wa η fun ds => ds.length = n ∧ wf ds Q
  | _ => False
theorem sem_fnS {K : PySem.W.Frag} {i n : Nat} {wf : WF} {ta : TA} {wa : WA} (ha : SemB K ta wa) : SemE K (tCall (spS K n wf) [] E0 (tCons (tVar i) ta)) (wFnS i n wf wa) := fun {sx H0 F0 F σ H η Q R} r hw k => by
  unfold wFnS at hw
  split at hw
  · rename_i hi
    obtain ⟨v, hv, a, b, rfl, rfl⟩ := r.val hi
    refine ⟨.ref a, hv, ha r hw fun ds vs F1 H1 q e hd => ?_⟩
    show spS K n wf ((V.ref a :: vs) ++ []) H1 R E0
    rw [List.append_nil]
    exact ⟨a, b, vs, F1, ds, Q, rfl, (r.ext e).base, hd, q.1, q.2, k.ext e⟩
  · exact hw.elim
section
variable {X : Cx} {k n : Nat} {f : Addr} {fd : FuncData} {ps : List Str} {wf : WF} {x : Str} {p pos : Pos} {e : Expr} {es : List Expr} {ta : TA} {wa : WA}
theorem de_fnS (i : Nat) (G : FnG X.prog X.w X.K X.mg X.base k f fd ps (spS X.K n wf)) (hr : Room k X.A) (hG : X.A.guards = some []) (hm : X.mg x = some (.ref f)) (hk : PySem.W.keepIn X.K (.ref f) = true) (hb : Binds X.K fd ps []) (hg : Gl X x) (hn : PE X e (tVar i)) (ha : DB X es ta wa)
    (hdb : (x == ("__debug__" : Str)) = false := by decide) (he : starEach (e :: es) X.env = (false, eval e X.env) :: starEach es X.env := by rfl) (hpl : (backTo pos (starEach es X.env)).any (·.1) = false := by rfl) :
    DE X (.Call (.Name x p) (e :: es) [] pos) (tCall (spS X.K n wf) [] E0 (tCons (tVar i) ta)) (wFnS i n wf wa) := ⟨pe_callG G hr hG hg hm hk hb (pa_cons hn ha.pa he) hdb he hpl, sem_fnS ha.sem⟩
end
end W2

set_option Elab.async false
set_option linter.all false
set_option maxRecDepth 100000
/-! W2S: sorted over data, empty tuples among them too. -/
namespace W2
open PySem PySem.Spec PyProof.Rows L2 PySem.SeqAt PySem.W

section
variable {A : Around} {s : Shared}
/-- sorting asks tuple's own __lt__ -/
theorem tupLtCall {prog : Program} {w : World} {E : Value → Shared → Prop} {Q : Value → Shared → Prop} {l b : Addr} {xs ys : Array Value} {e r : Nat → Bool} (hl : s.heap.IsTuple l xs) (hb : s.heap.IsTuple b ys)
    (he : ∀ j (h1 : j < xs.size) (h2 : j < ys.size), EqAt A.in1 s xs[j] ys[j] (e j)) (hr : ∀ j (h1 : j < xs.size) (h2 : j < ys.size), e j = false → RcLt A.in1 s xs[j] ys[j] (r j))
    (h : Q (.bool (firstLt e r (decide (xs.size < ys.size)) (List.range (min xs.size ys.size)))) s) : wpAny (model prog w) A (call (.builtin "tuple.__lt__") [.ref l, .ref b]) Q E s := by
  obtain ⟨⟨c1, d1, t1, s1⟩, o1, k1, n1, z1⟩ := id hl
  obtain ⟨⟨c2, d2, t2, s2⟩, o2, k2, n2, z2⟩ := id hb
  simp only at k1 z1 k2 z2
  subst k1 z1 k2 z2
  exact call_meets PySem.F.slot_tuple_lt ⟨_, o1, rfl⟩ PySem.F.entry_tuple_lt (PySem.F.args_tuple_lt_2 _ _) (tuple_ltAt l b xs ys n1 n2 d1 d2 s1 s2 e r) ⟨o1, o2, he, hr, h⟩
end
section
variable {prog : Program} {w : World} {A : Around} {E : Value → Shared → Prop} {s : Shared}
/-- the comparison of two tuples that sorting makes where all keys are tuples -/
theorem oneLtTup {xs ys : List PyData} {a b : Value} {as bs : List Addr} {Q : Bool → Shared → Prop} (ra : Reads s.heap a (.tuple xs) as) (rb : Reads s.heap b (.tuple ys) bs) (h : alike (.tuple xs) (.tuple ys) = true)
    (hu : A.units + min (PyData.tuple xs).depth (PyData.tuple ys).depth < cLine) (hq : Q (dataLt (.tuple xs) (.tuple ys)) s) : wpAny (model prog w) A (oneLt' true a b) Q E s := by
  have hal : alikeAll xs ys = true := by simpa [alike] using h
  cases ra with
  | @tuple l o vs n _ _ h1 h2 h3 h4 =>
    cases rb with
    | @tuple l' o' us m _ _ k1 k2 k3 k4 =>
      have n1 : vs.size = xs.length := by simpa using ReadsAll.length _ _ _ h4
      have n2 : us.size = ys.length := by simpa using ReadsAll.length _ _ _ k4
      rw [dataLt_tuple, ← firstLt_toks xs ys hal, ← n1, ← n2] at hq
      rw [oneLt'_eq]
      simp only [if_true]
      have room := room_in hu
      refine wpAny_bind (wpAny_cRoomFor (by omega) (wpAny_bind (wpAny_callSpecialIfBound?_slot (T := "tuple") ⟨_, h1, h2⟩ PySem.F.slot_tuple_lt (tupLtCall (e := pairEq xs ys) (r := fun j => dataLt (xs.getD j .none) (ys.getD j .none)) ⟨_, h1, h2, _, h3⟩ ⟨_, k1, k2, _, k3⟩ (fun j j1 j2 => ?_) (fun j j1 j2 hj => ?_) (wpAny_truthy_bool hq)))))
      · have q := eqAt_alikeAll xs ys A.in1 s vs.toList us.toList _ _ h4 k4 hal room j (by simpa using j1) (by simpa using j2)
        simpa using q
      · have q := rcLt_alikeAll xs ys A.in1 s vs.toList us.toList _ _ h4 k4 hal room j (by simpa using j1) (by simpa using j2) hj
        simpa using q
/-- the first places of tuples, where there are any -/
def Firsts (h : Heap) : List Value → List (Option Value) → Prop
  | [], [] => True
  | v :: vs, f :: fs => (∃ a o xs n, v = .ref a ∧ h.get? a = some o ∧ o.cls = .type "tuple" ∧ o.data = .seq xs n ∧ xs[0]? = f) ∧ Firsts h vs fs
  | _, _ => False
theorem mapM_firsts {M : Model} : ∀ (vs : List Value) (fs : List (Option Value)) {Q : List (Option Value) → Shared → Prop}, Firsts s.heap vs fs → Q fs s → wpAny M A (vs.mapM firstOfTuple') Q E s
  | [], [], _, _, h => by rw [List.mapM_nil]; exact wpAny_pure h
  | [], _ :: _, _, t, _ => t.elim
  | _ :: _, [], _, t, _ => t.elim
  | v :: vs, f :: fs, Q, t, h => by
    obtain ⟨⟨a, o, xs, n, rfl, ho, hc, hd, hf⟩, t⟩ := t
    rw [List.mapM_cons, kas_first_eq]
    have lk : Looks M s.heap (typeOf (.ref a)) o.cls := (Looks.ld ho).andThen .now
    refine wpAny_bind (wpAny_bind (lk.here ?_))
    rw [hc, if_neg (by simp)]
    refine wpAny_bind (listItems_at ho hd (wpAny_pure ?_))
    rw [hf]
    exact wpAny_bind (mapM_firsts vs fs (Q := fun bs s' => wpAny M A (pure (f :: bs)) Q E s') t (wpAny_pure h))
theorem firsts_of {h : Heap} : ∀ {vs : List Value} {ds : List PyData}, EachIs (fun v d => ∃ as, Reads h v d as) vs ds → (∀ d, d ∈ ds → ∃ xs, d = .tuple xs) → ∃ fs, Firsts h vs fs ∧ (PyData.tuple [] ∈ ds → none ∈ fs)
  | _, _, .nil, _ => ⟨[], trivial, fun h => absurd h (by simp)⟩
  | _, _, .cons (b := d) ⟨as, r⟩ t, ht => by
    obtain ⟨fs, h1, h2⟩ := firsts_of t fun d hd => ht d (List.mem_cons_of_mem _ hd)
    obtain ⟨xs, rfl⟩ := ht d (List.mem_cons_self ..)
    cases r with
    | @tuple a o vs n _ _ ho hc hd hr =>
      refine ⟨vs[0]? :: fs, ⟨⟨a, o, vs, n, rfl, ho, hc, hd, rfl⟩, h1⟩, fun hm => ?_⟩
      rcases List.mem_cons.mp hm with e | hm
      · have e1 : xs = [] := by cases e; rfl
        subst e1
        have e2 : vs.toList = [] := by
          cases q : vs.toList with
          | nil => rfl
          | cons x r => rw [q] at hr; cases hr
        have e3 : vs = #[] := Array.toList_inj.mp (by rw [e2])
        subst e3
        exact List.mem_cons_self ..
      · exact List.mem_cons_of_mem _ (h2 hm)
theorem SortsAt.tups {vs : List Value} {ds : List PyData} (e : EachIs (fun v d => ∃ as, Reads s.heap v d as) vs ds) (hal : AllAlike ds) (ht : ∀ d, d ∈ ds → ∃ xs, d = .tuple xs) (hu : ∀ d, d ∈ ds → A.units + d.depth < cLine) : SortsAt prog w A s (dataKind s.heap ds) vs := by
  by_cases hne : PyData.tuple [] ∈ ds
  · obtain ⟨fs, f1, f2⟩ := firsts_of e ht
    have hno := f2 hne
    have room : ∀ {d d' : PyData}, d ∈ ds → A.units + min d.depth d'.depth < cLine := fun {d d'} hd => Nat.lt_of_le_of_lt (Nat.add_le_add_left (Nat.min_le_left _ _) _) (hu d hd)
    have notall : ¬ (fs.toArray.all fun x => x.isSome) = true := fun z => by
      rw [List.all_toArray, List.all_eq_true] at z
      exact absurd (z _ hno) (by simp)
    have keys : ∀ v, v ∈ vs → ∃ a, (dataKind s.heap ds).keyOf v = some a := fun v hv => by
      obtain ⟨d, hd, as, r⟩ := e.left v hv
      exact ⟨_, dataKind_some hal hd r⟩
    by_cases hf : (fs.toArray[0]?.bind id).isSome = true
    · refine ⟨keys, general', fun E x y a b Q ha hb hq => ?_, fun h2 E Q hq => ?_⟩
      · obtain ⟨d, as, hd, ra, rfl⟩ := dataKind_inv ha
        obtain ⟨d', as', hd', rb, rfl⟩ := dataKind_inv hb
        have hn : d ≠ .none := by obtain ⟨xs, rfl⟩ := ht d hd; intro z; cases z
        show wpAny _ _ (oneLt' false x y) _ _ _
        exact oneLt_alike (fun z => nomatch z) ra rb (hal d hd d' hd') hn (room hd) hq
      · rw [kat_kind_eq, List.mapM_toArray, map_eq_pure_bind]
        refine wpAny_bind (wpAny_bind (mapM_firsts vs _ f1 (wpAny_pure ?_)))
        rw [if_neg notall, if_pos hf]
        exact wpAny_pure hq
    · refine ⟨keys, oneType', fun E x y a b Q ha hb hq => ?_, fun h2 E Q hq => ?_⟩
      · obtain ⟨d, as, hd, ra, rfl⟩ := dataKind_inv ha
        obtain ⟨d', as', hd', rb, rfl⟩ := dataKind_inv hb
        rw [keyLt'_oneType]
        have al := hal d hd d' hd'
        have rm := room (d' := d') hd
        obtain ⟨xs, rfl⟩ := ht d hd
        obtain ⟨ys, rfl⟩ := ht d' hd'
        exact oneLtTup ra rb al rm hq
      · rw [kat_kind_eq, List.mapM_toArray, map_eq_pure_bind]
        refine wpAny_bind (wpAny_bind (mapM_firsts vs _ f1 (wpAny_pure ?_)))
        rw [if_neg notall, if_neg hf, oneTypeOnly'_eq, List.mapM_toArray, map_eq_pure_bind]
        have hT : ∀ v ∈ vs, Looks (model prog w) s.heap (typeOf v) (.type "tuple") := fun v hv => by
          obtain ⟨d, hd, as, r⟩ := e.left v hv
          obtain ⟨xs, rfl⟩ := ht d hd
          exact looks_reads r
        obtain ⟨v₁, rest, rfl⟩ : ∃ v₁ rest, vs = v₁ :: rest := by
          cases vs with
          | nil => simp at h2
          | cons a b => exact ⟨a, b, rfl⟩
        refine wpAny_bind (wpAny_bind (wpAny_bind (kas_mapM (r := Value.type "tuple") _ (fun v hv Q' hq => (hT v hv).here hq) (wpAny_pure ?_))))
        have hall : ((List.map (fun _ => Value.type "tuple") (v₁ :: rest)).toArray.all fun x => x == Value.type "tuple") = true := by
          simp only [List.all_toArray, List.all_map, List.all_eq_true]
          intro _ _
          exact beq_self_eq_true _
        have h0 : (List.map (fun _ => Value.type "tuple") (v₁ :: rest)).toArray[0]? = some (Value.type "tuple") := by simp
        rw [h0]
        simp only [hall, if_true]
        exact wpAny_pure (wpAny_pure hq)
  · refine SortsAt.data e hal (.inl fun d hd => ?_) hu
    obtain ⟨xs, rfl⟩ := ht d hd
    cases xs with
    | nil => exact absurd hd hne
    | cons x r => exact ⟨x, r, rfl⟩
end
end W2

set_option Elab.async false
set_option linter.all false
set_option maxRecDepth 100000
/-! W2T: sorted, repr, sum, max, min over data. -/
namespace W2
open PySem PySem.Spec PyProof.Rows L2 PySem.W

/-! ### sorted -/
def sortD (ds : List D) : List D := ds.mergeSort (dataLe false id)
def isTup : D → Bool
  | .tuple _ => true
  | _ => false
def isNon : D → Bool
  | .none => true
  | _ => false
/-- what can be sorted here -/
def sortOk (ds : List D) : Bool := (ds.all fun d => ds.all fun e => alike d e) && (ds.all isTup || ds.all fun d => !isTup d && !isNon d) && ds.all fun d => decide (d.depth ≤ 64)
section
variable {prog : Program} {w : World} {A : Around} {s : Shared}
theorem sortsAt_ok {vs : List Value} {ds : List PyData} (e : EachIs (fun v d => ∃ as, Reads s.heap v d as) vs ds) (h : sortOk ds = true) (hu : A.units + 64 < cLine) : SortsAt prog w A s (dataKind s.heap ds) vs := by
  unfold sortOk at h
  rw [Bool.and_eq_true, Bool.and_eq_true] at h
  obtain ⟨⟨h1, h2⟩, h3⟩ := h
  have hal : AllAlike ds := fun d hd d' hd' => List.all_eq_true.mp (List.all_eq_true.mp h1 d hd) d' hd'
  have dep : ∀ d, d ∈ ds → A.units + d.depth < cLine := fun d hd => by
    have := of_decide_eq_true (List.all_eq_true.mp h3 d hd)
    omega
  rcases Bool.or_eq_true _ _ ▸ h2 with h2 | h2
  · exact SortsAt.tups e hal (fun d hd => by
      have q := List.all_eq_true.mp h2 d hd
      cases d <;> first | (cases q; done) | exact ⟨_, rfl⟩) dep
  · refine SortsAt.data e hal (.inr fun d hd => ?_) dep
    have q := List.all_eq_true.mp h2 d hd
    constructor
    · rintro rfl; cases q
    · rintro xs rfl; cases q
theorem allAlike_ok {ds : List PyData} (h : sortOk ds = true) : AllAlike ds := by
  unfold sortOk at h
  rw [Bool.and_eq_true, Bool.and_eq_true] at h
  exact fun d hd d' hd' => List.all_eq_true.mp (List.all_eq_true.mp h.1.1 d hd) d' hd'
end
/-- pairs of a value and its data, sorted by the data -/
def sortP (bs : List (V × D)) : List (V × D) := bs.mergeSort (dataLe false (fun b => b.2))
theorem sortP_snd (bs : List (V × D)) : (sortP bs).map (·.2) = sortD (bs.map (·.2)) := by
  unfold sortP sortD
  exact sort_maps (r := dataLe false fun b : V × D => b.2) (s := dataLe false id) (fun b : V × D => b.2) fun a _ b _ => rfl
theorem each_of {P : Value → V × D → Prop} : ∀ {vs : List V} {ds : List D} {us : List Value}, vs.length = ds.length → Vals vs us → (∀ v d u, (v, d) ∈ vs.zip ds → RelV v u → P u (v, d)) → EachIs P us (vs.zip ds)
  | [], [], _, _, r, _ => by cases r; exact .nil
  | v :: vs, d :: ds, _, hl, r, h => by
    cases r with
    | cons r1 r2 => exact .cons (h v d _ (by simp) r1) (each_of (by simpa using hl) r2 fun v' d' u hm => h v' d' u (by simp [hm]))
  | [], _ :: _, _, hl, _, _ => by simp at hl
  | _ :: _, [], _, hl, _, _ => by simp at hl
theorem each_vals : ∀ {us : List Value} {bs : List (V × D)}, EachIs (fun u b => RelV b.1 u) us bs → Vals (bs.map (·.1)) us
  | _, _, .nil => .nil
  | _, _, .cons h t => .cons h (each_vals t)
theorem zip_snd {α β : Type} : ∀ {xs : List α} {ys : List β}, xs.length = ys.length → (xs.zip ys).map (·.2) = ys
  | [], [], _ => rfl
  | x :: xs, y :: ys, h => by simp [zip_snd (by simpa using h : xs.length = ys.length)]
  | [], _ :: _, h => by simp at h
  | _ :: _, [], h => by simp at h
section
variable {X : Cx} {pins : List (Addr × Obj)} {σ : L2.St} {H : Hp} {s : Shared}
/-- a list that was just laid is sorted -/
theorem sort_laid {A : Around} {P : PySem.Fin → Shared → Prop} {E : Value → Shared → Prop} {vs : List V} {ds : List D} {us : List Value} (I : Inv X pins σ H s) (hu : A.units + 64 < cLine) (r : Vals vs us) (hd : DpAll X.K H vs ds) (ok : sortOk ds = true) (hz : us.length ≤ sizeLine) {tk : Nat}
    (h : ∀ (s' : Shared) (ws : List V), ws = (sortP (vs.zip ds)).map (·.1) → Inv X pins σ (upd H s.heap.objs.size (.lst ws)) s' → P (.done (.ret .none)) s') :
    wpAny (model X.prog X.w) A (Builtin.«list.sort» ⟨[.ref s.heap.objs.size], []⟩) P E { s with heap := s.heap.push (seqObj "list" us.toArray 0), toks := tk } := by
  have hl : vs.length = ds.length := by
    have : ∀ {vs : List V} {ds : List D}, DpAll X.K H vs ds → vs.length = ds.length := by
      intro vs
      induction vs with
      | nil => intro ds h; cases h; rfl
      | cons v vs ih => intro ds h; cases h with | cons _ t => simp [ih t]
    exact this hd
  have hp : (s.heap.push (seqObj "list" us.toArray 0)).get? s.heap.objs.size = some (seqObj "list" us.toArray 0) := Heap.get?_push_size _ rfl
  obtain ⟨_, ras⟩ := Dp.readsAll I ds vs us hd r
  -- each value reads as its data, in the heap where it is sorted
  have old : ∀ b o, s.heap.get? b = some o → (sortingHeap (s.heap.push (seqObj "list" us.toArray 0)) s.heap.objs.size us).get? b = some o := fun b o e =>
    sortingHeap_old (Nat.ne_of_lt (Heap.lt_size e)) (Heap.get?_push_of_some _ e)
  have each : EachIs (fun v d => ∃ as, Reads (sortingHeap (s.heap.push (seqObj "list" us.toArray 0)) s.heap.objs.size us) v d as) us ds := by
    have go : ∀ {us' : List Value} {ds' : List D} {as : List Addr}, ReadsAll s.heap us' ds' as → EachIs (fun v d => ∃ as, Reads (sortingHeap (s.heap.push (seqObj "list" us.toArray 0)) s.heap.objs.size us) v d as) us' ds' := by
      intro us'
      induction us' with
      | nil => intro ds' as h; cases h; exact .nil
      | cons u us' ih =>
        intro ds' as h
        cases h with
        | cons h1 h2 => exact .cons ⟨_, PyProof.Rows.Reads.keeps old h1⟩ (ih h2)
    exact go ras
  have sz : (vs.zip ds).map (·.2) = ds := zip_snd hl
  have h1 : EachIs (fun u (b : V × D) => RelV b.1 u) us (vs.zip ds) := each_of hl r fun v d u _ q => q
  have h2 : EachIs (fun v (b : V × D) => ∃ as, Reads (sortingHeap (s.heap.push (seqObj "list" us.toArray 0)) s.heap.objs.size us) v b.2 as) us (vs.zip ds) := each_of_map (fun b : V × D => b.2) (by rw [sz]; exact each)
  have h3 := sortVals_data (enc := fun b : V × D => b.2) false h1 h2 (by rw [sz]; exact allAlike_ok ok)
  rw [sz] at h3
  refine list_sort_vals (κ := dataKind (sortingHeap (s.heap.push (seqObj "list" us.toArray 0)) s.heap.objs.size us) ds) (n := 0) hp (sortsAt_ok (s := { s with heap := _, toks := tk }) each ok hu) hz ?_
  have hv := each_vals h3
  obtain ⟨c, hc⟩ := sortedHeap_at (out := (sortVals (dataKind (sortingHeap (s.heap.push (seqObj "list" us.toArray 0)) s.heap.objs.size us) ds) false us us).toArray) hp
  refine h _ _ rfl (I.laid (t' := tk) (fun b o e => ?_) (Nat.le_refl _) ⟨?_, _, c, hv, hc⟩)
  · have lt := Heap.lt_size e
    rw [sortedHeap_old (Nat.ne_of_lt lt) (by rw [size_push']; exact Nat.lt_succ_of_lt lt)]
    exact Heap.get?_push_of_some _ e
  · show ((sortP (vs.zip ds)).map (·.1)).length ≤ sizeLine
    have hl2 : vs.length = us.length := r.length
    rw [List.length_map, sortP, List.length_mergeSort, List.length_zip]
    omega
theorem sortedGo {A : Around} {E : Value → Shared → Prop} {Q : Value → Shared → Prop} {v : Value} {vs : List V} {ds : List D} (hu : A.units + 70 < cLine) (ha : argsOk "sorted" ⟨[v], []⟩) (hd : DpAll X.K H vs ds)
    (hcol : ∀ (Q' : List Value → Shared → Prop) (E' : Value → Shared → Prop), (∀ s1 us, Inv X pins σ H s1 → Vals vs us → us.length ≤ sizeLine → Q' us s1) → wpAny (model X.prog X.w) A.in1 (collect v) Q' E' s) (ok : sortOk ds = true)
    (h : ∀ (s' : Shared) (p : Addr) (ws : List V), ws = (sortP (vs.zip ds)).map (·.1) → H p = none → Inv X pins σ (upd H p (.lst ws)) s' → Q (.ref p) s') : wpAny (model X.prog X.w) A (call (.builtin "sorted") [v]) Q E s := by
  refine Calls.call_function_entry PyProof.Rows.kind_sorted PyProof.Rows.plain_sorted PyProof.Rows.entry_sorted ha ?_
  unfold Builtin.«sorted»
  refine wpAny_bind (m := checkCount "sorted" 1 1 _) (wpAny_pure (wpAny_bind (hcol _ _ fun s1 us I1 r hz => ?_)))
  refine wpAny_bind (wpAny_newList ?_ hz)
  refine wpAny_bind (wpAny_holding (wpAny_call_entry_kw PySem.F.slot_list_sort ⟨_, Heap.get?_push_size _ rfl, rfl⟩ PySem.F.entry_list_sort ?_ (PySem.F.args_list_sort_1 _)))
  show wpAny (model X.prog X.w) A.in1.in1 (Builtin.«list.sort» ⟨[.ref s1.heap.objs.size], []⟩) _ _ _
  refine sort_laid (tk := s1.toks) I1 (by show A.units + 1 + 1 + 64 < cLine; omega) r hd ok hz fun s' ws e I2 => ?_
  exact ⟨_, rfl, wpAny_pure ⟨_, rfl, h s' _ ws e (I1.hok.fresh (Nat.le_refl _)) I2⟩⟩
end

def rSortA (K : PySem.W.Frag) : List V → Hp → VK → Prop := fun xs H Q =>
  (∃ (a : Addr) (vs : List V) (ds : List D), xs = [.ref a] ∧ DpAll K H vs ds ∧ sortOk ds = true ∧ (SqL K H a vs ∨ SqT K H a vs ∨ ∃ kvs, Rd H a (.dK kvs) ∧ vs = kvs.map fun kv => kV kv.1) ∧
    ∀ p ws, ws = (sortP (vs.zip ds)).map (·.1) → H p = none → Q (.ref p) (upd H p (.lst ws))) ∨
  ∃ (a : Addr) (kvs : List (List Key × V)), xs = [.ref a] ∧ Rd H a (.dT kvs) ∧ sortOk (kvs.map fun kv => .tuple (kv.1.map kD)) = true ∧
    ∀ bs p ws, IsKeys H kvs bs → ws = (sortP ((bs.map V.ref).zip (kvs.map fun kv => .tuple (kv.1.map kD)))).map (·.1) → H p = none → Q (.ref p) (upd H p (.lst ws))
section
variable {X : Cx}
theorem dpAll_keysT {K : PySem.W.Frag} {H : Hp} : ∀ {ks : List Key}, DpAll K H (ks.map kV) (ks.map kD)
  | [] => .nil
  | .inl i :: ks => .cons (.int i) dpAll_keysT
  | .inr x :: ks => .cons (.str x) dpAll_keysT
theorem acc_of {P : Nat → Value → Prop} {acc : Array Value} {vs : List V} (h : ItemsOf P acc vs.length) (hp : ∀ (j : Nat) (u : Value) (v : V), vs[j]? = some v → P j u → RelV v u) : Vals vs acc.toList := by
  obtain ⟨h1, h2⟩ := h
  have go : ∀ (vs : List V) (us : List Value), us.length = vs.length → (∀ (j : Nat) u v, us[j]? = some u → vs[j]? = some v → RelV v u) → Vals vs us := by
    intro vs
    induction vs with
    | nil => intro us hl _; cases us with | nil => exact .nil | cons _ _ => simp at hl
    | cons v vs ih =>
      intro us hl hr
      cases us with
      | nil => simp at hl
      | cons u us => exact .cons (hr 0 u v rfl rfl) (ih us (by simpa using hl) fun j u' v' a b => hr (j + 1) u' v' (by simpa using a) (by simpa using b))
  exact go vs acc.toList (by rw [Array.length_toList]; exact h1) fun j u v e1 e2 => hp j u v e2 (h2 j u (by rw [← Array.getElem?_toList]; exact e1))
theorem cr_sortedA (hc : X.calm = true) (hu : X.A.units + 70 < cLine) : CallR X (.builtin "sorted") (rSortA X.K) := fun pins s σ H xs us Q I r h => by
  rcases h with ⟨a, vs, ds, rfl, hd, ok, hl | hl | ⟨kvs, rd, rfl⟩, q⟩ | ⟨a, kvs, rfl, rd, ok, q⟩
  all_goals
    obtain ⟨u, rfl, rx⟩ := vals1 r
    cases rx
  · obtain ⟨its, rv, p, hz⟩ := I.list hl
    refine sortedGo hu (PyProof.Rows.args_sorted1 _) hd (fun Q' E' hq => ?_) ok fun s' p ws e n I' => ⟨.ref p, _, I', rfl, q p ws e n⟩
    have hz' : its.length ≤ sizeLine := by rw [← rv.length]; exact hz
    refine collect_list p.isList (hq _ _ (I.kept (t' := s.toks) fun b o e => ?_) rv hz') hz'
    rw [Heap.get?_update_ne _ _ _ _ (Nat.ne_of_lt (Heap.lt_size e))]
    exact Heap.get?_push_of_some _ e
  · obtain ⟨its, rv, p, hz⟩ := I.tuple hl
    refine sortedGo hu (PyProof.Rows.args_sorted1 _) hd (fun Q' E' hq => ?_) ok fun s' p ws e n I' => ⟨.ref p, _, I', rfl, q p ws e n⟩
    have hz' : its.length ≤ sizeLine := by rw [← rv.length]; exact hz
    obtain ⟨o, ho, hcl, m, hdt⟩ := p
    refine wpAny_collect_seq a (.inr rfl) ho hcl hdt (fun h' hk => ?_) (by rw [List.size_toArray]; exact hz')
    have e : its.toArray.toList = its := by simp
    rw [e]
    exact hq _ _ (I.kept (t' := s.toks) hk) rv hz'
  · obtain ⟨z, lo, ks, rel, dd⟩ := dk_rd I.hok rd
    obtain ⟨ep, hat⟩ := dd.dictAt
    have hl : kvs.length = ks.length := rel.length
    refine sortedGo hu (PyProof.Rows.args_sorted1 _) hd (fun Q' E' hq => ?_) ok fun s' p ws e n I' => ⟨.ref p, _, I', rfl, q p ws e n⟩
    refine PySem.W.kdu_collect (A := X.A.in1) (PySem.W.kdl_dict (knd := mixKind X.prog X.w) (kvs := ks) (ep := ep) lo) (I.ok.hd hc) hat (by omega) fun h' tk acc hk hacc => ?_
    have hv : Vals (kvs.map fun kv => kV kv.1) acc.toList := by
      refine acc_of (by rw [List.length_map, hl]; exact hacc) fun j u v hj hp => ?_
      obtain ⟨k, x, e1, e2⟩ := hp
      rw [List.getElem?_map] at hj
      cases hkv : kvs[j]? with
      | none => rw [hkv] at hj; cases hj
      | some kv =>
        rw [hkv] at hj
        cases hj
        obtain ⟨k', v'⟩ := kv
        obtain ⟨w', hw, _⟩ := kv_get rel hkv
        rw [e1] at hw
        cases hw
        exact relV_key (show keyIs k u = true from e2)
    exact hq _ _ (I.kept (t' := tk) hk) hv (by rw [← hv.length, List.length_map]; exact z)
  · obtain ⟨z, lo, ks, pr, o, es, ep, ho, hx, hdt, he, hn⟩ := (show ObjOk X.prog X.w H s.heap a (.dT kvs) from rd.ok I.hok)
    have l1 : es.size = ks.length := size_of_entries he
    have l2 : kvs.length = ks.length := Paired.length pr
    have isk := isKeys_of pr
    have hd : ∀ {kvs : List (List Key × V)} {bs : List Addr}, IsKeys H kvs bs → DpAll X.K H (bs.map V.ref) (kvs.map fun kv => .tuple (kv.1.map kD)) := by
      intro kvs bs h
      unfold IsKeys at h
      induction h with
      | nil => exact .nil
      | cons h _ ih => exact .cons (.tup (SqT.of h) dpAll_keysT) ih
    refine sortedGo hu (PyProof.Rows.args_sorted1 _) (hd isk) (fun Q' E' hq => ?_) ok fun s' p ws e n I' => ⟨.ref p, _, I', rfl, q _ p ws isk e n⟩
    refine PySem.W.kdu_collect (A := X.A.in1) (kdl_raw lo hx hdt) (I.ok.hd hc) ho (by omega) fun h' tk acc hk hacc => ?_
    have hv : Vals ((ks.map fun x => x.2.1).map V.ref) acc.toList := by
      refine acc_of (by rw [List.length_map, List.length_map, ← l1]; exact hacc) fun j u v hj hp => ?_
      obtain ⟨en, hen, rfl⟩ := hp
      have h1 : es.toList[j]? = some en := by rw [Array.getElem?_toList]; exact hen
      rw [he, List.getElem?_map] at h1
      rw [List.getElem?_map, List.getElem?_map] at hj
      cases hb : ks[j]? with
      | none => rw [hb] at hj; cases hj
      | some b =>
        rw [hb] at hj h1
        cases hj
        cases h1
        rfl
    exact hq _ _ (I.kept (t' := tk) hk) hv (by rw [← hv.length, List.length_map, List.length_map]; omega)
end
/-- the sorted pairs as data -/
theorem sortP_dt {K : PySem.W.Frag} {F : Hp} {vs : List V} {ds : List D} (h : DtL K F vs ds) : DtL K F ((sortP (vs.zip ds)).map (·.1)) (sortD ds) := by
  have hz : (vs.zip ds).map (·.2) = ds := zip_snd h.length
  have e : sortD ds = (sortP (vs.zip ds)).map (·.2) := by rw [sortP_snd, hz]
  rw [e]
  have mem : ∀ p ∈ sortP (vs.zip ds), Dt K F p.1 p.2 := fun p hp => by
    have hp' : p ∈ vs.zip ds := by
      unfold sortP at hp
      exact (List.mergeSort_perm _ _).mem_iff.mp hp
    have all : ∀ {vs : List V} {ds : List D}, DtL K F vs ds → ∀ p ∈ vs.zip ds, Dt K F p.1 p.2 := by
      intro vs
      induction vs with
      | nil => intro ds _ p hp; simp at hp
      | cons v vs ih =>
        intro ds h p hp
        cases h with
        | cons h1 h2 =>
          rw [List.zip_cons_cons] at hp
          rcases List.mem_cons.mp hp with rfl | hp
          · exact h1
          · exact ih h2 p hp
    exact all h p hp'
  generalize sortP (vs.zip ds) = l at mem
  induction l with
  | nil => exact .nil
  | cons p l ih => exact .cons (mem p List.mem_cons_self) (ih fun q hq => mem q (List.mem_cons_of_mem _ hq))
theorem DtL.dpA {K : PySem.W.Frag} {F H : Hp} (le : Same F H) {vs : List V} {ds : List D} (h : DtL K F vs ds) (c : PyData.canLayAll0 ds = true) : DpAll K H vs ds := DtL.dp le h c
def gSorted : List D → (D → Prop) → Prop
  | [.list ds], Q => PyData.canLayAll0 ds = true ∧ sortOk ds = true ∧ Q (.list (sortD ds))
  | [.tuple ds], Q => PyData.canLayAll0 ds = true ∧ sortOk ds = true ∧ Q (.list (sortD ds))
  | [.dict es], Q => sortOk (es.map (·.1)) = true ∧ Q (.list (sortD (es.map (·.1))))
  | _, _ => False
theorem DtK.keysEq {K : PySem.W.Frag} {F : Hp} : ∀ {kvs : List (Key × V)} {es : List (D × D)}, DtK K F kvs es → es.map (·.1) = kvs.map fun kv => kD kv.1
  | _, _, .nil => rfl
  | _, _, .cons _ t => by rw [List.map_cons, List.map_cons, t.keysEq]
theorem DtT.keysEq {K : PySem.W.Frag} {F : Hp} : ∀ {kvs : List (List Key × V)} {es : List (D × D)}, DtT K F kvs es → es.map (·.1) = kvs.map fun kv => .tuple (kv.1.map kD)
  | _, _, .nil => rfl
  | _, _, .cons _ t => by rw [List.map_cons, List.map_cons, t.keysEq]
theorem dpAll_kD {K : PySem.W.Frag} {H : Hp} : ∀ {kvs : List (Key × V)}, DpAll K H (kvs.map fun kv => kV kv.1) (kvs.map fun kv => kD kv.1)
  | [] => .nil
  | (.inl i, _) :: r => .cons (.int i) dpAll_kD
  | (.inr x, _) :: r => .cons (.str x) dpAll_kD
theorem dtL_kD {K : PySem.W.Frag} {H : Hp} : ∀ {kvs : List (Key × V)}, DtL K H (kvs.map fun kv => kV kv.1) (kvs.map fun kv => kD kv.1)
  | [] => .nil
  | (k, _) :: r => .cons (.key k) dtL_kD
/-- the keys' tuples of a dict, frozen -/
def keysF (bs : List Addr) (F H : Hp) : Hp := fun b => match F b with
  | some o => some o
  | none => if b ∈ bs then (match H b with | some (.tup xs) => some (.tup xs) | _ => none) else none
theorem ext_keysF {sx : Sx} {F H : Hp} (b : Base sx F H) (bs : List Addr) : Ext2 sx F H (keysF bs F H) H where
  sF := fun c o h => by unfold keysF; rw [h]
  sH := fun _ _ h _ => h
  le := fun c o h => by
    unfold keysF at h
    cases q : F c with
    | some u => rw [q] at h; cases h; exact b.le _ _ q
    | none =>
      rw [q] at h
      dsimp only at h
      split at h
      · split at h
        · rename_i z; rw [← h]; exact z
        · cases h
      · cases h
  fr := fun c o h => by
    unfold keysF at h
    cases q : F c with
    | some u => rw [q] at h; cases h; exact .inl rfl
    | none =>
      rw [q] at h
      dsimp only at h
      split at h
      · split at h
        · cases h; exact .inr (.inr ⟨_, rfl⟩)
        · cases h
      · cases h
  ok := b.ok
theorem dtL_keysT {K : PySem.W.Frag} {sx : Sx} {F H : Hp} (b : Base sx F H) (all : List Addr) : ∀ {kvs : List (List Key × V)} {bs : List Addr}, IsKeys H kvs bs → (∀ c ∈ bs, c ∈ all) → DtL K (keysF all F H) (bs.map V.ref) (kvs.map fun kv => .tuple (kv.1.map kD)) := by
  intro kvs bs h
  unfold IsKeys at h
  induction h with
  | nil => intro _; exact .nil
  | @cons kv c kvs bs h _ ih =>
    intro hm
    refine .cons (.tup (xs := kv.1.map kV) ?_ (.keys _)) (ih fun c hc => hm c (List.mem_cons_of_mem _ hc))
    unfold keysF
    cases q : F c with
    | some u =>
      have := b.le _ _ q
      rw [h] at this
      cases this
      rfl
    | none =>
      dsimp only
      rw [if_pos (hm c List.mem_cons_self), h]
theorem cs_sorted {K : PySem.W.Frag} : CSemL K (rSortA K) gSorted := fun {sx F H vs ds Q R} b h hg k => by
  unfold gSorted at hg
  split at hg
  · obtain ⟨v, rfl, h1⟩ := Nws.one h
    obtain ⟨a, xs, rfl, h2, h3⟩ := h1.list b.le
    refine .inl ⟨a, xs, _, rfl, h3.dpA b.le hg.1, hg.2.1, .inl (SqL.of h2), fun p ws e hp => ?_⟩
    subst e
    exact k.new b hg.2.2 (sortP_dt h3) p hp
  · obtain ⟨v, rfl, h1⟩ := Nws.one h
    obtain ⟨a, xs, rfl, h2, h3⟩ := h1.tupleH b.le
    refine .inl ⟨a, xs, _, rfl, h3.dpA b.le hg.1, hg.2.1, .inr (.inl h2), fun p ws e hp => ?_⟩
    subst e
    exact k.new b hg.2.2 (sortP_dt h3) p hp
  · obtain ⟨v, rfl, h1⟩ := Nws.one h
    obtain ⟨a, rfl, ⟨kvs, rd, h3⟩ | ⟨kvs, rd, h3⟩⟩ := h1.dict b.le
    · rw [h3.keysEq] at hg
      refine .inl ⟨a, _, _, rfl, dpAll_kD, hg.1, .inr (.inr ⟨kvs, rd, rfl⟩), fun p ws e hp => ?_⟩
      subst e
      exact k.new b hg.2 (sortP_dt dtL_kD) p hp
    · rw [h3.keysEq] at hg
      refine .inr ⟨a, kvs, rfl, rd, hg.1, fun bs p ws isk e hp => ?_⟩
      subst e
      have ex := ext_keysF b bs
      exact (k.ext ex).new (ex.base b) hg.2 (sortP_dt (dtL_keysT b bs isk fun _ h => h)) p hp
  · exact hg.elim
end W2

set_option Elab.async false
set_option linter.all false
set_option maxRecDepth 100000
/-! W2U: repr, sums, what enumerate, zip and items walk. -/
namespace W2
open PySem PySem.Spec PyProof.Rows L2

/-! ### repr -/
/-- a text is at most so long -/
def reprOk (d : D) : Bool := d.canLay0 && d.showable && decide (d.depth ≤ 64) && decide (d.shown.length ≤ 16777216)
theorem noDict_of_lay : ∀ d : D, d.canLay0 = true → d.hasDict = false := by
  have go : (∀ d : D, d.canLay0 = true → d.hasDict = false) ∧ True := by
    refine ⟨?_, trivial⟩
    intro d
    exact PyData.rec (motive_1 := fun d => d.canLay0 = true → d.hasDict = false) (motive_2 := fun ds => PyData.canLayAll0 ds = true → PyData.hasDictAll ds = false) (motive_3 := fun _ => True) (motive_4 := fun _ => True)
      (fun _ => rfl) (fun _ _ => rfl) (fun _ _ => rfl) (fun _ _ => rfl)
      (fun xs ih h => by simpa [PyData.hasDict] using ih (by simpa [PyData.canLay0] using h))
      (fun xs ih h => by simpa [PyData.hasDict] using ih (by simpa [PyData.canLay0] using h))
      (fun kvs _ h => by simp [PyData.canLay0] at h)
      (fun _ => rfl)
      (fun x xs i1 i2 h => by
        have h' : x.canLay0 = true ∧ PyData.canLayAll0 xs = true := by simpa [PyData.canLayAll0] using h
        simp [PyData.hasDictAll, i1 h'.1, i2 h'.2])
      trivial (fun _ _ _ _ => trivial) (fun _ _ _ _ => trivial) d
  exact go.1
def rRepr (K : PySem.W.Frag) : List V → Hp → VK → Prop := fun xs H Q => ∃ x d, xs = [x] ∧ Dp K H x d ∧ reprOk d = true ∧ Q (.str d.shown) H
theorem cr_repr {X : Cx} (hu : X.A.units + 70 < cLine) (hG : X.A.guards = some []) : CallR X (.builtin "repr") (rRepr X.K) := fun pins s σ H xs us Q I r h => by
  obtain ⟨x, d, rfl, hd, ok, q⟩ := h
  obtain ⟨u, rfl, rx⟩ := vals1 r
  unfold reprOk at ok
  rw [Bool.and_eq_true, Bool.and_eq_true, Bool.and_eq_true] at ok
  obtain ⟨⟨⟨h1, h2⟩, h3⟩, h4⟩ := ok
  have h3 := of_decide_eq_true h3
  have h4 : d.shown.length ≤ sizeLine := by rw [sizeLine_eq]; exact of_decide_eq_true h4
  obtain ⟨as, rd⟩ := Dp.reads I d x u hd rx
  have fin : ∀ (h' : Heap) (t tk : Nat), (∀ b o, s.heap.get? b = some o → h'.get? b = some o) → EP X pins σ Q (.str d.shown t) { s with heap := h', toks := tk } := fun h' t tk hk => ⟨.str _, H, I.kept (t' := tk) hk, ⟨_, rfl⟩, q⟩
  have none_ : d.hasDict = true → sysModules ∉ as := fun z => by rw [noDict_of_lay d h1] at z; cases z
  cases rd with
  | none => exact PySem.P.repr_of_none (fin _ _ _ fun _ _ e => e)
  | bool b => exact PySem.P.repr_of_bool (fin _ _ _ fun _ _ e => e)
  | int i t => exact PySem.P.repr_of_int (of_decide_eq_true (by simpa [PyData.showable] using h2)) (fin _ _ _ fun _ _ e => e)
  | str y t => exact PySem.P.repr_of_str (fin _ _ _ fun _ _ e => e) h4
  | list a1 a2 a3 a4 => exact repr_of_reads' (.list a1 a2 a3 a4) h2 none_ hG (by omega) (fun _ _ e => e) (fun h' u tk hk => fin h' u tk hk) h4
  | tuple a1 a2 a3 a4 => exact repr_of_reads' (.tuple a1 a2 a3 a4) h2 none_ hG (by omega) (fun _ _ e => e) (fun h' u tk hk => fin h' u tk hk) h4
  | dict a1 a2 a3 a4 a5 => simp [PyData.canLay0] at h1
def gRepr : List D → (D → Prop) → Prop
  | [d], Q => reprOk d = true ∧ Q (.str d.shown)
  | _, _ => False
theorem reprOk_lay {d : D} (h : reprOk d = true) : d.canLay0 = true := by
  unfold reprOk at h
  rw [Bool.and_eq_true, Bool.and_eq_true, Bool.and_eq_true] at h
  exact h.1.1.1
theorem cs_repr {K : PySem.W.Frag} : CSem K (rRepr K) gRepr := fun {sx F H vs ds Q R} b h hg k => by
  unfold gRepr at hg
  split at hg
  · obtain ⟨v, rfl, h1⟩ := Nws.one h
    exact ⟨v, _, rfl, h1.dp b.le (reprOk_lay hg.1), hg.1, k.now b hg.2 (.str _)⟩
  · exact hg.elim

/-! ### sums, greatest, least, of lists of ints -/
def intsOf : List D → Option (List Int)
  | [] => some []
  | .int i :: r => (intsOf r).map (i :: ·)
  | _ :: _ => none
theorem intsOf_some : ∀ {ds : List D} {ns : List Int}, intsOf ds = some ns → ds = ns.map PyData.int
  | [], ns, h => by cases h; rfl
  | d :: r, ns, h => by
    cases d <;> first | (cases h; done) | skip
    rename_i i
    cases q : intsOf r with
    | none => rw [intsOf, q] at h; cases h
    | some ms =>
      rw [intsOf, q] at h
      cases h
      rw [intsOf_some q]
      rfl
theorem intsOf_map (ns : List Int) : intsOf (ns.map PyData.int) = some ns := by
  induction ns with
  | nil => rfl
  | cons n ns ih => rw [List.map_cons, intsOf, ih]; rfl
def gSum : List D → (D → Prop) → Prop
  | [.list ds], Q => ∃ ns, intsOf ds = some ns ∧ Q (.int ns.sum)
  | [.tuple ds], Q => ∃ ns, intsOf ds = some ns ∧ Q (.int ns.sum)
  | _, _ => False
def gMaxL : List D → (D → Prop) → Prop
  | [.list ds], Q => ∃ ns, intsOf ds = some ns ∧ 0 < ns.length ∧ ∀ m, m ∈ ns → (∀ y, y ∈ ns → y ≤ m) → Q (.int m)
  | _, _ => False
def gMinL : List D → (D → Prop) → Prop
  | [.list ds], Q => ∃ ns, intsOf ds = some ns ∧ 0 < ns.length ∧ ∀ m, m ∈ ns → (∀ y, y ∈ ns → m ≤ y) → Q (.int m)
  | _, _ => False
theorem cs_max {K : PySem.W.Frag} : CSem K (rMax K) gMaxL := fun {sx F H vs ds Q R} b h hg k => by
  unfold gMaxL at hg
  split at hg
  · obtain ⟨v, rfl, h1⟩ := Nws.one h
    obtain ⟨a, xs, rfl, h2, h3⟩ := h1.list b.le
    obtain ⟨ns, e, l, q⟩ := hg
    rw [intsOf_some e] at h3
    rw [h3.intsV] at h2
    exact ⟨a, ns, rfl, SqL.of h2, l, fun m hm hy => k.now b (q m hm hy) (.int _)⟩
  · exact hg.elim
theorem cs_min {K : PySem.W.Frag} : CSem K (rMin K) gMinL := fun {sx F H vs ds Q R} b h hg k => by
  unfold gMinL at hg
  split at hg
  · obtain ⟨v, rfl, h1⟩ := Nws.one h
    obtain ⟨a, xs, rfl, h2, h3⟩ := h1.list b.le
    obtain ⟨ns, e, l, q⟩ := hg
    rw [intsOf_some e] at h3
    rw [h3.intsV] at h2
    exact ⟨a, ns, rfl, SqL.of h2, l, fun m hm hy => k.now b (q m hm hy) (.int _)⟩
  · exact hg.elim
def gSumL : List D → (D → Prop) → Prop
  | [.list ds], Q => ∃ ns, intsOf ds = some ns ∧ Q (.int ns.sum)
  | _, _ => False
theorem cs_sum {K : PySem.W.Frag} : CSem K (rSum K) gSumL := fun {sx F H vs ds Q R} b h hg k => by
  unfold gSumL at hg
  split at hg
  · obtain ⟨v, rfl, h1⟩ := Nws.one h
    obtain ⟨a, xs, rfl, h2, h3⟩ := h1.list b.le
    obtain ⟨ns, e, q⟩ := hg
    rw [intsOf_some e] at h3
    rw [h3.intsV] at h2
    exact ⟨a, ns, rfl, SqL.of h2, k.now b q (.int _)⟩
  · exact hg.elim
def boolsOf : List D → Option (List Bool)
  | [] => some []
  | .bool i :: r => (boolsOf r).map (i :: ·)
  | _ :: _ => none
theorem boolsOf_some : ∀ {ds : List D} {ns : List Bool}, boolsOf ds = some ns → ds = ns.map PyData.bool
  | [], ns, h => by cases h; rfl
  | d :: r, ns, h => by
    cases d <;> first | (cases h; done) | skip
    rename_i i
    cases q : boolsOf r with
    | none => rw [boolsOf, q] at h; cases h
    | some ms =>
      rw [boolsOf, q] at h
      cases h
      rw [boolsOf_some q]
      rfl
theorem DtL.boolsV {K : PySem.W.Frag} {F : Hp} : ∀ {vs : List V} {ns : List Bool}, DtL K F vs (ns.map PyData.bool) → vs = ns.map V.bl
  | _, [], h => by cases h; rfl
  | _, n :: ns, h => by
    cases h with
    | cons a t =>
      cases a
      rw [t.boolsV]; rfl
def gAll : List D → (D → Prop) → Prop
  | [.list ds], Q => ∃ ns, boolsOf ds = some ns ∧ Q (.bool (ns.all id))
  | _, _ => False
def gAny : List D → (D → Prop) → Prop
  | [.list ds], Q => ∃ ns, boolsOf ds = some ns ∧ Q (.bool (ns.any id))
  | _, _ => False
theorem cs_all {K : PySem.W.Frag} : CSem K (rAll K) gAll := fun {sx F H vs ds Q R} b h hg k => by
  unfold gAll at hg
  split at hg
  · obtain ⟨v, rfl, h1⟩ := Nws.one h
    obtain ⟨a, xs, rfl, h2, h3⟩ := h1.list b.le
    obtain ⟨ns, e, q⟩ := hg
    rw [boolsOf_some e] at h3
    rw [h3.boolsV] at h2
    exact ⟨a, ns, rfl, SqL.of h2, k.now b q (.bl _)⟩
  · exact hg.elim
theorem cs_any {K : PySem.W.Frag} : CSem K (rAny K) gAny := fun {sx F H vs ds Q R} b h hg k => by
  unfold gAny at hg
  split at hg
  · obtain ⟨v, rfl, h1⟩ := Nws.one h
    obtain ⟨a, xs, rfl, h2, h3⟩ := h1.list b.le
    obtain ⟨ns, e, q⟩ := hg
    rw [boolsOf_some e] at h3
    rw [h3.boolsV] at h2
    exact ⟨a, ns, rfl, SqL.of h2, k.now b q (.bl _)⟩
  · exact hg.elim
end W2

set_option Elab.async false
set_option linter.all false
set_option maxRecDepth 100000
/-! W2V: what yields new tuples: enumerate, zip, items. -/
namespace W2
open PySem PySem.Spec PyProof.Rows L2

/-- at each turn a new tuple -/
def ItT (Fz : Hp → Prop) (n : Nat) (G : Hp → Nat → List V → Prop) : It :=
  ⟨fun i H => Fz H ∧ i < n, fun i H x H' => ∃ T vs, x = .ref T ∧ H T = none ∧ H' = upd H T (.tup vs) ∧ G H i vs, fun i H => Fz H ∧ i = n⟩
theorem turn_T {P : Program} {w : World} {K : PySem.W.Frag} {elts : List Expr} {kk : Nat} {tpos : Pos} {Y : Type} {I : Addr} {wr : List Addr} {n : Nat} {fp : Y → List Addr} {nY : Y → Nat} {Pt : Y → Nat → Array Value → Prop} {St : Y → Nat → Heap → Prop} {Mid : Y → Nat → Addr → Heap → Prop} {Itr : Nat → Heap → Prop} {Sc : Y → Heap → Prop} {Fz : Hp → Prop} {G : Hp → Nat → List V → Prop}
    (W : ∀ (y : Y) (A : Around), A.handled = none → WalksT P w A I (fp y) wr (nY y) (Pt y) (St y) (Mid y)) (hst : ∀ y i h, Itr i h → Sc y h → St y i h) (hts : ∀ y i h, St y i h → Itr i h) (hI : I ∈ wr)
    (hobj : ∀ i h, Itr i h → ∀ b ∈ wr, ∃ o, h.get? b = some o ∧ ∀ v, o.data ≠ .cell v) (hkeep : ∀ i h h', Itr i h → (∀ b ∈ wr, ∀ o, h.get? b = some o → h'.get? b = some o) → Itr i h')
    (hsrc : ∀ (X : Cx) (pins : List (Addr × Obj)) (σ : L2.St) (H : Hp) (s : Shared), X.prog = P → X.w = w → X.K = K → Inv X pins σ H s → Fz H →
      ∃ y, Sc y s.heap ∧ nY y = n ∧ ∀ i vals, i < n → Pt y i vals → ∃ vs, Vals vs vals.toList ∧ G H i vs ∧ vs.length ≤ 1000)
    (hself : ∀ (A : Around) (i : Nat) (s : Shared) (Q : Value → Shared → Prop) (E : Value → Shared → Prop), Itr i s.heap → Q (.ref I) s → wpAny (model P w) A (pyIter (.ref I)) Q E s) :
    Turn P w K (.Tuple elts kk tpos) (ItT Fz n G) wr I Itr where
  mem := hI
  obj := hobj
  keep := hkeep
  item := by
    intro X hP hw hK hc i pins s σ H E Iv hf st hg
    obtain ⟨y, hs, hn, hval⟩ := hsrc X pins σ H s hP hw hK Iv hg.1
    have WX := W y X.A (Iv.ok.hd hc)
    refine WX.item i s _ _ (by rw [hn]; exact hg.2) (hst y _ _ st hs) fun T vals h' tk hp hT ht hm hk => ?_
    obtain ⟨vs, hv, hG, hl⟩ := hval i vals hg.2 hp
    refine ⟨_, rfl, WX.go elts kk tpos i T { s with heap := h', toks := tk } _ _ hm fun h'' st' hk' => ?_⟩
    have hTw := WX.apart i T h' hm
    obtain ⟨o, ho, hcl, m, hd⟩ := ht
    have ho' : h''.get? T = some o := hk' T o hTw ho
    have new : ObjOk X.prog X.w (upd H T (.tup vs)) h'' T (.tup vs) := ⟨Nat.le_trans hl (by decide), vals.toList, hv, ⟨o, ho', hcl, m, by rw [hd, Array.toArray_toList]⟩⟩
    have I1 : Inv X pins σ (upd H T (.tup vs)) { s with heap := h'', toks := tk } := Iv.turnedNew (ch := wr) (fun b ob hb e => hk' b ob hb (hk b ob hb e)) hf hT new
    have nw : ∀ b ∈ wr, b ≠ T := fun b hb z => hTw (z ▸ hb)
    exact ⟨.ref T, _, I1, rfl, ⟨T, vs, rfl, Iv.hok.fresh hT, rfl, hG⟩, hts y _ _ st', fun b hb => by rw [upd_ne (nw b hb)]; exact (hf b hb).1⟩
  done := by
    intro X hP hw hK hc i pins s σ H E Iv hf st hg
    obtain ⟨hg, rfl⟩ := hg
    obtain ⟨y, hs, hn, _⟩ := hsrc X pins σ H s hP hw hK Iv hg
    have WX := W y X.A (Iv.ok.hd hc)
    rw [hn] at WX
    exact WX.done s _ _ (hst y _ _ st hs) fun h' tk hk => ⟨rfl, Iv.turnedL hk hf⟩
  self := hself
/-! ### enumerate(x), a list's or a tuple's places -/
set_option maxHeartbeats 1000000 in
theorem meets_enum1 {v : Value} {o : Obj} {H : Heap → Prop} (B : Begins v o H) : Meets (Builtin.«enumerate.__new__» ⟨[.type "enumerate", v], []⟩) (fun _ R s => H s.heap ∧
    R (.ok (.ret (.ref (s.heap.push o).objs.size))) { s with heap := (s.heap.push o).push { cls := .type "enumerate", data := .fields #[.none, .bool false, .ref s.heap.objs.size, rawInt 0, .none, .none] } }) :=
  .of_wp fun prog w A R s h => by
    obtain ⟨hp, g, d, tk, os⟩ := s
    obtain ⟨h1, h⟩ := h
    have hsub := sub_enumerate
    have q1 : ∀ {A' : Around} {E : Value → Shared → Prop} {Q : Value → Shared → Prop}, Q (.ref hp.objs.size) ⟨hp.push o, g, d, tk, os⟩ → wpAny (model prog w) A' (pyIter v) Q E ⟨hp, g, d, tk, os⟩ := fun q => B.iter prog w _ _ ⟨hp, g, d, tk, os⟩ _ h1 q
    wp_walk using q1
    refine wpAny_stack_any fun st => wpAny_pure ?_
    split
    · rename_i c _ _ _ _ _
      cases (c == Value.type "enumerate") <;> (wp_walk using q1; exact ⟨_, rfl, h⟩)
    · wp_walk using q1
      exact ⟨_, rfl, h⟩
theorem call_enum1 {prog : Program} {w : World} {A : Around} {E : Value → Shared → Prop} {s : Shared} {v : Value} {o : Obj} {H : Heap → Prop} {Q : Value → Shared → Prop} (B : Begins v o H) (h1 : H s.heap)
    (h : ∀ h', IsEnum h' (s.heap.objs.size + 1) s.heap.objs.size 0 .none → h'.get? s.heap.objs.size = some o → (∀ b o, s.heap.get? b = some o → h'.get? b = some o) → Q (.ref (s.heap.objs.size + 1)) { s with heap := h' }) : wpAny (model prog w) A (call (.type "enumerate") [v]) Q E s := by
  refine callType_new PySem.F.called_enumerate (by decide) (PySem.F.typeCall_enumerate_1 _) (PySem.F.newCall_enumerate_1 _) (fun obj => PySem.F.args_object_init_2 obj _) PySem.F.entry_enumerate_new (meets_enum1 B) ⟨h1, ?_⟩
  have hz : (s.heap.push o).objs.size = s.heap.objs.size + 1 := Heap.size_push ..
  have he : IsEnum ((s.heap.push o).push { cls := .type "enumerate", data := .fields #[.none, .bool false, .ref s.heap.objs.size, rawInt 0, .none, .none] }) (s.heap.objs.size + 1) s.heap.objs.size 0 .none := by
    have q := Heap.get?_push_size (s.heap.push o) (o := { cls := .type "enumerate", data := .fields #[.none, .bool false, .ref s.heap.objs.size, rawInt 0, .none, .none] }) rfl
    rw [hz] at q
    exact q
  show _ ∧ _
  rw [hz]
  exact ⟨⟨_, he, rfl⟩, h _ he (Heap.get?_push_of_some _ (Heap.get?_push_size _ B.free)) fun b u z => Heap.get?_push_of_some _ (Heap.get?_push_of_some _ z)⟩
/-- the places of a list or a tuple -/
def EnG (items : Hp → List V → Prop) (H : Hp) (i : Nat) (vs : List V) : Prop := ∃ xs x, items H xs ∧ xs[i]? = some x ∧ vs = [.int (i : Nat), x]
def iEnumA (K : PySem.W.Frag) (ta : TA) : TI := fun σ H R => ta σ H fun us H1 => ∃ a xs, us = [.ref a] ∧
  ((SqL K H1 a xs ∧ R (ItT (fun H => SqL K H a xs) xs.length fun _ i vs => ∃ x, xs[i]? = some x ∧ vs = [.int (i : Nat), x]) H1) ∨ (SqT K H1 a xs ∧ R (ItT (fun H => SqT K H a xs) xs.length fun _ i vs => ∃ x, xs[i]? = some x ∧ vs = [.int (i : Nat), x]) H1))
theorem enum_obj {e it : Addr} {h : Heap} {c : Int} {old : Value} (he : IsEnum h e it c old) (hi : ∃ o, h.get? it = some o ∧ ∀ v, o.data ≠ .cell v) : ∀ b ∈ [e, it], ∃ o, h.get? b = some o ∧ ∀ v, o.data ≠ .cell v := fun b hb => by
  have hb' : b = e ∨ b = it := by simpa using hb
  rcases hb' with rfl | rfl
  · exact ⟨_, he, fun v q => nomatch q⟩
  · exact hi
theorem enum_val {K : PySem.W.Frag} {xs : List V} {its : List Value} (rv : Vals xs its) {i : Nat} {vals : Array Value} (h : ∃ t x, its.toArray[i]? = some x ∧ vals = #[.int (0 + (i : Int)) t, x]) : ∃ vs, Vals vs vals.toList ∧ (∃ x, xs[i]? = some x ∧ vs = [V.int (i : Nat), x]) ∧ vs.length ≤ 1000 := by
  obtain ⟨t, x, hx, rfl⟩ := h
  have hx' : its[i]? = some x := by simpa using hx
  have lt : i < xs.length := by rw [rv.length]; exact (List.getElem?_eq_some_iff.mp hx').1
  obtain ⟨u, hu, ru⟩ := rv.get (List.getElem?_eq_getElem lt)
  rw [hx'] at hu
  cases hu
  refine ⟨[.int (i : Nat), xs[i]], .cons ⟨t, ?_⟩ (.cons ru .nil), ⟨_, List.getElem?_eq_getElem lt, rfl⟩, by show 2 ≤ 1000; decide⟩
  rw [Int.zero_add]
theorem turn_enumL {P : Program} {w : World} {K : PySem.W.Frag} {elts : List Expr} {kk : Nat} {tpos : Pos} {e it a : Addr} {xs : List V} (hei : e ≠ it) (hea : e ≠ a) (hia : a ≠ it) :
    Turn P w K (.Tuple elts kk tpos) (ItT (fun H => SqL K H a xs) xs.length fun _ i vs => ∃ x, xs[i]? = some x ∧ vs = [.int (i : Nat), x]) [e, it] e (fun i h => (∃ old, IsEnum h e it (0 + (i : Int)) old) ∧ h.IsListIter it a i) :=
  turn_T (Y := List Value) (fp := fun _ => [e, it, a]) (nY := fun its => its.toArray.size) (Sc := fun its h => h.IsList a its.toArray) (W := fun its A hh => WalksT.enumFrom 0 (Draws.list (A := A.in1) hh it a hia its.toArray) e hei (by simp [hei, hea]) (by simp)) (fun _ i h x y => ⟨x.1, x.2, y⟩) (fun _ i h x => ⟨x.1, x.2.1⟩) (by simp)
    (fun i h ⟨⟨old, he⟩, ⟨o, ho, hc, hd⟩⟩ => enum_obj he ⟨o, ho, fun v q => by rw [hd] at q; cases q⟩)
    (fun i h h' ⟨⟨old, he⟩, hi⟩ k => ⟨⟨old, k e (by simp) _ he⟩, hi.at fun o q => k it (by simp) o q⟩)
    (fun X pins σ H s hP hw hK I hz => by
      subst hP hw hK
      obtain ⟨its, rv, p, _⟩ := I.list hz
      exact ⟨its, p.isList, by rw [List.size_toArray]; exact rv.length.symm, fun i vals _ h => enum_val (K := X.K) rv h⟩)
    (fun A i s Q E ⟨⟨old, he⟩, _⟩ q => wpAny_pyIter_enum he q)
theorem turn_enumT {P : Program} {w : World} {K : PySem.W.Frag} {elts : List Expr} {kk : Nat} {tpos : Pos} {e it a : Addr} {xs : List V} (hei : e ≠ it) (hea : e ≠ a) (hia : a ≠ it) :
    Turn P w K (.Tuple elts kk tpos) (ItT (fun H => SqT K H a xs) xs.length fun _ i vs => ∃ x, xs[i]? = some x ∧ vs = [.int (i : Nat), x]) [e, it] e (fun i h => (∃ old, IsEnum h e it (0 + (i : Int)) old) ∧ h.IsTupleIter it a i) :=
  turn_T (Y := List Value) (fp := fun _ => [e, it, a]) (nY := fun its => its.toArray.size) (Sc := fun its h => h.IsTuple a its.toArray) (W := fun its A hh => WalksT.enumFrom 0 (Draws.tuple (A := A.in1) hh it a hia its.toArray) e hei (by simp [hei, hea]) (by simp)) (fun _ i h x y => ⟨x.1, x.2, y⟩) (fun _ i h x => ⟨x.1, x.2.1⟩) (by simp)
    (fun i h ⟨⟨old, he⟩, ⟨o, ho, hc, hd⟩⟩ => enum_obj he ⟨o, ho, fun v q => by rw [hd] at q; cases q⟩)
    (fun i h h' ⟨⟨old, he⟩, hi⟩ k => ⟨⟨old, k e (by simp) _ he⟩, hi.at fun o q => k it (by simp) o q⟩)
    (fun X pins σ H s hP hw hK I hz => by
      subst hP hw hK
      obtain ⟨its, rv, p, _⟩ := I.tuple hz
      exact ⟨its, p, by rw [List.size_toArray]; exact rv.length.symm, fun i vals _ h => enum_val (K := X.K) rv h⟩)
    (fun A i s Q E ⟨⟨old, he⟩, _⟩ q => wpAny_pyIter_enum he q)
section
variable {X : Cx} {e : Expr} {te : TE} {we : WE} {ta : TA} {elts : List Expr} {kk : Nat} {tpos p pos apos cpos : Pos}
theorem pi_enumA (hg : Gl X "enumerate") (hm : X.mg "enumerate" = none) (ha : PA X [e] ta) (hs : starEach [e] X.env = [(false, eval e X.env)] := by rfl) : PI X (.Tuple elts kk tpos) (.Call (.Name "enumerate" p) [e] [] pos) (iEnumA X.K ta) := by
  refine ⟨fun pins s σ H R I h => Call_ (ld_blt I hg hm boot_enumerate (PyProof.Rows.callWith_type1 (thn (ha.run pos pins s σ H _ I h) fun us s1 ⟨vs, H1, I1, r1, q1⟩ => ?_) hs rfl))⟩
  obtain ⟨a, xs, rfl, q⟩ := q1
  obtain ⟨u, rfl, rx⟩ := vals1 r1
  cases rx
  have fpo : ∀ b ∈ [s1.heap.objs.size + 1, s1.heap.objs.size], FpOk X pins H1 b := fun b hb => by
    have e' : b = s1.heap.objs.size + 1 ∨ b = s1.heap.objs.size := by simpa using hb
    have hle : s1.heap.objs.size ≤ b := by rcases e' with z | z <;> omega
    exact I1.fpOk hle (I1.hok.fresh hle)
  rcases q with ⟨hq, q⟩ | ⟨hq, q⟩
  · obtain ⟨its, rv, p', hz⟩ := I1.list hq
    have lt : a < s1.heap.objs.size := by obtain ⟨o, ho, _⟩ := p'.isList; exact Heap.lt_size ho
    refine call_enum1 (begins_list a its.toArray) p'.isList fun h' he hit hk => wpAny_pyIter_enum he ?_
    exact ⟨_, [s1.heap.objs.size + 1, s1.heap.objs.size], _, _, H1, rfl, I1.kept (t' := s1.toks) hk, turn_enumL (e := s1.heap.objs.size + 1) (it := s1.heap.objs.size) (Nat.succ_ne_self _) (Nat.ne_of_gt (Nat.lt_succ_of_lt lt)) (Nat.ne_of_lt lt), ⟨⟨.none, he⟩, _, hit, rfl, rfl⟩, fpo, q⟩
  · obtain ⟨its, rv, p', hz⟩ := I1.tuple hq
    have pt : s1.heap.IsTuple a its.toArray := p'
    have lt : a < s1.heap.objs.size := by obtain ⟨o, ho, _⟩ := pt; exact Heap.lt_size ho
    refine call_enum1 (begins_tuple a its.toArray) pt fun h' he hit hk => wpAny_pyIter_enum he ?_
    exact ⟨_, [s1.heap.objs.size + 1, s1.heap.objs.size], _, _, H1, rfl, I1.kept (t' := s1.toks) hk, turn_enumT (e := s1.heap.objs.size + 1) (it := s1.heap.objs.size) (Nat.succ_ne_self _) (Nat.ne_of_gt (Nat.lt_succ_of_lt lt)) (Nat.ne_of_lt lt), ⟨⟨.none, he⟩, _, hit, rfl, rfl⟩, fpo, q⟩
/-- a new tuple of frozen values -/
theorem it_T {K : PySem.W.Frag} {sx : Sx} {F : Hp} {Fz : Hp → Prop} {n : Nat} {G : Hp → Nat → List V → Prop} {ds : List (List D)} (hn : ds.length = n) (hz : ∀ F' H', Same F F' → Base sx F' H' → Fz H')
    (hG : ∀ {F' H' : Hp} {i : Nat} {vs : List V} {es : List D}, Same F F' → Base sx F' H' → ds[i]? = some es → G H' i vs → ∃ F'', Ext2 sx F' H' F'' H' ∧ DtL K F'' vs es) : ItOk K sx F (ItT Fz n G) (ds.map PyData.tuple) where
  go := fun s b hi => ⟨hz _ _ s b, by rw [← hn]; simpa using hi⟩
  yld := fun {F' H' H'' i x d} s b hi y => by
    obtain ⟨T, vs, rfl, hT, rfl, g⟩ := y
    rw [List.getElem?_map] at hi
    cases q : ds[i]? with
    | none => rw [q] at hi; cases hi
    | some es =>
      rw [q] at hi
      cases hi
      obtain ⟨F1, e1, hd⟩ := hG s b q g
      have e2 := Ext2.new (o := .tup vs) (e1.base b) hT
      exact ⟨_, e1.trans e2, .tup upd_same (hd.mono e2.sF)⟩
  stop := fun s b => ⟨hz _ _ s b, by rw [List.length_map, hn]⟩
def enumD (ds : List D) : List (List D) := (ds.zipIdx).map fun p => [.int (p.2 : Nat), p.1]
theorem enumD_get {ds : List D} {i : Nat} {es : List D} (h : (enumD ds)[i]? = some es) : ∃ d, ds[i]? = some d ∧ es = [.int (i : Nat), d] := by
  unfold enumD at h
  rw [List.getElem?_map, List.getElem?_zipIdx] at h
  cases q : ds[i]? with
  | none => rw [q] at h; cases h
  | some d =>
    rw [q] at h
    cases h
    exact ⟨d, rfl, by simp⟩
theorem enumD_len (ds : List D) : (enumD ds).length = ds.length := by simp [enumD]
def wEnum (we : WE) : WI := fun η Q => we η fun d => match d with
  | .list ds => Q ((enumD ds).map PyData.tuple)
  | .tuple ds => Q ((enumD ds).map PyData.tuple)
  | _ => False
theorem en_dt {K : PySem.W.Frag} {F F' : Hp} {xs : List V} {ds : List D} (h : DtL K F xs ds) (s : Same F F') {i : Nat} {vs : List V} {es : List D} (he : (enumD ds)[i]? = some es) (g : ∃ x, xs[i]? = some x ∧ vs = [V.int (i : Nat), x]) : DtL K F' vs es := by
  obtain ⟨d, hd, rfl⟩ := enumD_get he
  obtain ⟨x, hx, rfl⟩ := g
  obtain ⟨v, hv, hh⟩ := h.get i hd
  rw [hx] at hv
  cases hv
  exact .cons (.int _) (.cons (hh.mono s) .nil)
theorem di_enum (hg : Gl X "enumerate") (hm : X.mg "enumerate" = none) (he : DE X e te we) (hs : starEach [e] X.env = [(false, eval e X.env)] := by rfl) : DI X (.Tuple elts kk tpos) (.Call (.Name "enumerate" p) [e] [] pos) (iEnumA X.K (tCons te tNil)) (wEnum we) :=
  ⟨pi_enumA hg hm (pa_cons he.pe pa_nil hs) hs, fun {sx H0 F0 F σ H η Q R} r hw k => he.sem r hw fun d v F1 H1 q e hd => by
    have le := (r.ext e).base.le
    cases d <;> first | exact q.elim | skip
    · cases hd with
      | lst h1 h2 => exact ⟨_, _, rfl, .inl ⟨SqL.of (le _ _ h1), k _ _ F1 H1 q e (it_T (by rw [enumD_len, h2.length]) (fun F' H' s b => SqL.of (b.le _ _ (s _ _ h1))) fun s b he g => ⟨_, .refl b, en_dt h2 s he g⟩)⟩⟩
    · cases hd with
      | tup h1 h2 => exact ⟨_, _, rfl, .inr ⟨SqT.of (le _ _ h1), k _ _ F1 H1 q e (it_T (by rw [enumD_len, h2.length]) (fun F' H' s b => SqT.of (b.le _ _ (s _ _ h1))) fun s b he g => ⟨_, .refl b, en_dt h2 s he g⟩)⟩⟩⟩
end
end W2

set_option Elab.async false
set_option linter.all false
set_option maxRecDepth 100000
/-! W2I: d.items(), whatever the keys. -/
namespace W2
open PySem PySem.Spec PyProof.Rows L2

theorem frzTv {X : Cx} {pins : List (Addr × Obj)} {σ : L2.St} {H : Hp} {s : Shared} {d : Addr} {o : Obj} {kvs : List (List Key × V)} (I : Inv X pins σ H s) (h : H d = some (.frz o (.dT kvs))) :
    (d == sysModules) = false ∧ ∃ (es : Array DictEntry) (ep : Nat), o.data = .dict es ep ∧ s.heap.DictRaw d es ep ∧ es.size = kvs.length ∧
      ∀ (i : Nat) (hi : i < es.size), ∃ (k : List Key) (v : V) (q : Addr), kvs[i]? = some (k, v) ∧ es[i].key = .ref q ∧ H q = some (.tup (k.map kV)) ∧ RelV v es[i].val := by
  obtain ⟨hd, z, hs, xs, pr, o', es, ep, ho, hx, hdt, he, _⟩ := I.hok d _ h
  rw [hd] at ho
  cases ho
  have l1 : es.size = xs.length := size_of_entries he
  have l2 : kvs.length = xs.length := Paired.length pr
  refine ⟨hs, es, ep, hdt, ⟨o, hd, hx, hdt⟩, by omega, fun i hi => ?_⟩
  have lt : i < kvs.length := by omega
  obtain ⟨b, hb, e1, e2, e3⟩ := paired_get pr (List.getElem?_eq_getElem lt)
  have q := entry_at he i
  rw [hb, Array.getElem?_eq_getElem hi] at q
  have q' : es[i] = entryOfKey (tupleKind (mixKind X.prog X.w)) b := Option.some.inj q
  refine ⟨kvs[i].1, kvs[i].2, b.2.1, List.getElem?_eq_getElem lt, ?_, e2, ?_⟩
  · rw [q']; rfl
  · rw [q']; exact e3
def ItmT (d : Addr) (o : Obj) (kvs : List (List Key × V)) : It := ItT (fun H => H d = some (.frz o (.dT kvs))) kvs.length fun H i vs => ∃ k v q, kvs[i]? = some (k, v) ∧ vs = [.ref q, v] ∧ H q = some (.tup (k.map kV))
theorem turn_itemsT {P : Program} {w : World} {K : PySem.W.Frag} {elts : List Expr} {kk : Nat} {tpos : Pos} {it d : Addr} {o : Obj} {kvs : List (List Key × V)} {es : Array DictEntry} {ep : Nat} (hne : d ≠ it) (hod : o.data = .dict es ep) (hsz : es.size = kvs.length) :
    Turn P w K (.Tuple elts kk tpos) (ItmT d o kvs) [it] it (fun i h => ∃ ok ov, IsItemIter h it d i es.size ep ok ov) :=
  turn_T (Y := Unit) (fp := fun _ => [it, d]) (nY := fun _ => es.size) (Sc := fun _ h => h.DictRaw d es ep) (W := fun _ A hh => WalksT.rawItems hh it d hne es ep) (fun _ i h x y => ⟨x, y⟩) (fun _ i h x => x.1) (by simp)
    (fun i h ⟨ok, ov, e⟩ b hb => by
      have hb' : b = it := by simpa using hb
      subst hb'
      exact ⟨_, e, fun v z => nomatch z⟩)
    (fun i h h' ⟨ok, ov, e⟩ k => ⟨ok, ov, k it (by simp) _ e⟩)
    (fun X pins σ H s hP hw hK I hz => by
      obtain ⟨hs, es', ep', hdt, raw, sz, g⟩ := frzTv I hz
      obtain ⟨rfl, rfl⟩ := dict_ep hod hdt
      refine ⟨(), raw, sz, fun i vals hi ⟨hi', e⟩ => ?_⟩
      obtain ⟨k, v, q, h1, h2, h3, h4⟩ := g i hi'
      subst e
      exact ⟨[.ref q, v], .cons h2 (.cons h4 .nil), ⟨k, v, q, h1, rfl, h3⟩, by show 2 ≤ 1000; decide⟩)
    (fun A i s Q E ⟨ok, ov, e⟩ q => wpAny_pyIter_itemiter e q)
def iItmA (td : TE) : TI := fun σ H R => td σ H fun x H1 => ∃ d o, x = .ref d ∧ ((∃ kvs, H1 d = some (.frz o (.dK kvs)) ∧ R (Iti d o kvs) H1) ∨ ∃ kvs, H1 d = some (.frz o (.dT kvs)) ∧ R (ItmT d o kvs) H1)
section
variable {X : Cx} {e : Expr} {te : TE} {we : WE} {elts : List Expr} {kk : Nat} {tpos apos cpos : Pos}
theorem pi_itmA (he : PE X e te) (hbase : attributeBase e "items" X.env (eval e X.env) = eval e X.env := by rfl) (hline : (apos.endLine == cpos.line) = true := by rfl) :
    PI X (.Tuple elts kk tpos) (.Call (.Attribute e "items" apos) [] [] cpos) (iItmA te) := by
  refine ⟨fun pins s σ H R I h => ?_⟩
  refine wpAny_Call_method (T := "dict") (id := "dict.items") hbase rfl hline F.plainAttrs_dict F.slot_dict_items F.type_dict_items (thn (he.run pins s σ H _ I h) fun u s1 ⟨x, H1, I1, rx, d, o, ex, q⟩ => ?_)
  subst ex
  obtain rfl : u = Value.ref d := rx
  rcases q with ⟨kvs, hd, q⟩ | ⟨kvs, hd, q⟩
  · obtain ⟨hs, hgd, hx, es, ep, vs, hdt, hsz, kv, hm⟩ := I1.frzK hd
    have hl : kvs.length = vs.length := Paired.length kv
    refine ⟨hm.dictOf.typeIs, hm.dictOf.mapOf.noDict, ?_⟩
    have I2 : Inv X pins σ H1 { s1 with heap := s1.heap.push { cls := .type "dict_items", data := .fields #[.ref d] } } := I1.kept (t' := s1.toks) fun b ob q => Heap.get?_push_of_some _ q
    have fin : wpAny (model X.prog X.w) X.A (pyIter (.ref s1.heap.objs.size)) (PIE X pins σ (.Tuple elts kk tpos) R) X.xe { s1 with heap := s1.heap.push { cls := .type "dict_items", data := .fields #[.ref d] } } := by
      refine wpAny_pyIter_items (d := d) (knd := mixKind X.prog X.w) ⟨_, Heap.get?_push_size _ rfl, rfl, rfl⟩ (hm.push _) (pi_one (tk := s1.toks) I2 _ (turn_items _ hdt) ⟨.none, .none, ?_⟩ q)
      rw [hl]
      exact Heap.get?_push_size _ rfl
    show wpAny _ _ (callWith cpos (.builtin "dict.items") [.ref d] [] []) _ X.xe s1
    exact method_meetsIn F.slot_dict_items F.entry_dict_items rfl (PySem.evalArgs_none ⟨rfl, hm.dictOf.typeIs, F.args_dict_items_1 _, _, meets_dict_items (mixKind X.prog X.w) d hs, ⟨vs, hm.dictOf⟩, fin⟩)
  · obtain ⟨hs, es, ep, hdt, raw, sz, g⟩ := frzTv I1 hd
    obtain ⟨t1, t2, _⟩ := isD_at I1 (.inr ⟨kvs, .inr ⟨o, hd⟩⟩)
    refine ⟨t1, t2, ?_⟩
    have I2 : Inv X pins σ H1 { s1 with heap := s1.heap.push { cls := .type "dict_items", data := .fields #[.ref d] } } := I1.kept (t' := s1.toks) fun b ob q => Heap.get?_push_of_some _ q
    have lt : d < s1.heap.objs.size := by obtain ⟨ob, ho, _⟩ := raw; exact Heap.lt_size ho
    have raw2 : (s1.heap.push { cls := .type "dict_items", data := .fields #[.ref d] }).DictRaw d es ep := raw.at fun ob q => Heap.get?_push_of_some _ q
    have fin : wpAny (model X.prog X.w) X.A (pyIter (.ref s1.heap.objs.size)) (PIE X pins σ (.Tuple elts kk tpos) R) X.xe { s1 with heap := s1.heap.push { cls := .type "dict_items", data := .fields #[.ref d] } } := by
      refine wpAny_pyIter_items_raw (d := d) (es := es) (ep := ep) ⟨_, Heap.get?_push_size _ rfl, rfl, rfl⟩ raw2 (pi_one (tk := s1.toks) I2 _ (turn_itemsT ?_ hdt sz) ⟨.none, .none, ?_⟩ q)
      · show d ≠ (s1.heap.push _).objs.size
        rw [Heap.size_push]
        exact Nat.ne_of_lt (Nat.lt_succ_of_lt lt)
      · exact Heap.get?_push_size _ rfl
    show wpAny _ _ (callWith cpos (.builtin "dict.items") [.ref d] [] []) _ X.xe s1
    exact method_meetsIn F.slot_dict_items F.entry_dict_items rfl (PySem.evalArgs_none ⟨rfl, t1, F.args_dict_items_1 _, _, meets_dict_items_raw d hs, ⟨es, ep, raw⟩, fin⟩)
def pairD (e : D × D) : D := .tuple [e.1, e.2]
theorem it_itmK {K : PySem.W.Frag} {sx : Sx} {F : Hp} {a : Addr} {o : Obj} {kvs : List (Key × V)} {es : List (D × D)} (h : F a = some (.frz o (.dK kvs))) (hd : DtK K F kvs es) : ItOk K sx F (Iti a o kvs) (es.map pairD) where
  go := fun {F' H' i} s b hi => ⟨b.le _ _ (s _ _ h), by rw [hd.length]; simpa using hi⟩
  yld := fun {F' H' H'' i x d} s b hi y => by
    obtain ⟨T, k, v, hk, rfl, hT, rfl⟩ := y
    obtain ⟨d', h1, h2⟩ := hd.key i hk
    rw [List.getElem?_map, h1] at hi
    cases hi
    have e2 := Ext2.new (o := .tup [kV k, v]) b hT
    exact ⟨_, e2, .tup upd_same (.cons (.key k) (.cons ((h2.mono s).mono e2.sF) .nil))⟩
  stop := fun {F' H'} s b => ⟨b.le _ _ (s _ _ h), by rw [hd.length]; simp⟩
theorem it_itmT {K : PySem.W.Frag} {sx : Sx} {F : Hp} {a : Addr} {o : Obj} {kvs : List (List Key × V)} {es : List (D × D)} (h : F a = some (.frz o (.dT kvs))) (hd : DtT K F kvs es) : ItOk K sx F (ItmT a o kvs) (es.map pairD) := by
  have q := it_T (K := K) (sx := sx) (F := F) (Fz := fun H => H a = some (.frz o (.dT kvs))) (n := kvs.length) (G := fun H i vs => ∃ k v q, kvs[i]? = some (k, v) ∧ vs = [.ref q, v] ∧ H q = some (.tup (k.map kV))) (ds := es.map fun e => [e.1, e.2])
    (by rw [List.length_map, hd.length]) (fun F' H' s b => b.le _ _ (s _ _ h)) (fun {F' H' i vs es'} s b he g => by
      obtain ⟨k, v, q, hk, rfl, hq⟩ := g
      obtain ⟨d', h1, h2⟩ := hd.key i hk
      rw [List.getElem?_map, h1] at he
      cases he
      have e2 := Ext2.keyTup b hq
      exact ⟨_, e2, .cons (.tup upd_same (.keys k)) (.cons ((h2.mono s).mono e2.sF) .nil)⟩)
  rw [List.map_map] at q
  exact q
def wItm (we : WE) : WI := fun η Q => we η fun d => match d with
  | .dict es => Q (es.map pairD)
  | _ => False
theorem di_itm (he : DE X e te we) (hbase : attributeBase e "items" X.env (eval e X.env) = eval e X.env := by rfl) (hline : (apos.endLine == cpos.line) = true := by rfl) :
    DI X (.Tuple elts kk tpos) (.Call (.Attribute e "items" apos) [] [] cpos) (iItmA te) (wItm we) :=
  ⟨pi_itmA he.pe hbase hline, fun {sx H0 F0 F σ H η Q R} r hw k => he.sem r hw fun d v F1 H1 q e hd => by
    have le := (r.ext e).base.le
    cases d <;> first | exact q.elim | skip
    cases hd with
    | dK h1 h2 => exact ⟨_, _, rfl, .inl ⟨_, le _ _ h1, k _ _ F1 H1 q e (it_itmK h1 h2)⟩⟩
    | dT h1 h2 => exact ⟨_, _, rfl, .inr ⟨_, le _ _ h1, k _ _ F1 H1 q e (it_itmT h1 h2)⟩⟩⟩
end
end W2

set_option Elab.async false
set_option linter.all false
set_option maxRecDepth 100000
/-! W2P: the law's source of numbers: what is laid, what a pick does. -/
namespace W2
open PySem PySem.Spec PyProof.Rows L2

abbrev rInt1 : List V → Hp → VK → Prop := fun xs H Q => (∃ i, xs = [.int i] ∧ Q (.int i) H) ∨ ∃ k, xs = [.bl k] ∧ Q (.int (if k then 1 else 0)) H
abbrev rAbs1 : List V → Hp → VK → Prop := fun xs H Q => ∃ i, xs = [.int i] ∧ Q (.int (if i < 0 then -i else i)) H
abbrev rMaxI : List V → Hp → VK → Prop := fun xs H Q => ∃ i j, xs = [.int i, .int j] ∧ Q (.int (if j > i then j else i)) H
abbrev rLenS (K : PySem.W.Frag) : List V → Hp → VK → Prop := fun xs H Q => ∃ p ys, xs = [.ref p] ∧ (SqL K H p ys ∨ SqT K H p ys) ∧ Q (.int ys.length) H
abbrev tK (i : Int) : TE := tC (.int i)
abbrev tS (x : Str) : TE := tC (.str x)
abbrev tMulI (a b : TE) : TE := tOp (rI CMul fun i j => .int (i * j)) a b
abbrev tAddI (a b : TE) : TE := tOp (rI0 fun i j => .int (i + j)) a b
abbrev tModI (a b : TE) : TE := tOp (rI (fun _ j => 0 < j) fun i j => .int (i % j)) a b
abbrev tDivI (a b : TE) : TE := tOp (rI CDiv fun i j => .int (i / j)) a b
abbrev tGtI (a b : TE) : TT := tTest (tOp (rI0 fun i j => .bl (decide (j < i))) a b)
abbrev tLtI (a b : TE) : TT := tTest (tOp (rI0 fun i j => .bl (decide (i < j))) a b)
abbrev tIntC (a : TE) : TE := tCB rInt1 (tCons a tNil)
def tSource (K : PySem.W.Frag) : TS :=
  tSeq (tAsg (tK 11) (gName 1)) (tSeq (tFor (iList K (tVar 0)) (gName 2) (tAsg (tModI (tIntC (tAddI (tAddI (tMulI (tVar 1) (tK 69069)) (tMulI (tVar 2) (tK 31))) (tK 5))) (tK 2147483629)) (gName 1)))
    (tRet (tDisp [(tS "cells", tRevL K (tLc (iList K (tVar 0)) (gName 2) tYes (tCB rAbs1 (tCons (tVar 2) tNil)) [2])), (tS "left", tK 1), (tS "mixed", tVar 1), (tS "turn", tK 0)])))
def skv (b : Addr) (l m t : Int) : List (Key × V) := [(.inr "cells", .ref b), (.inr "left", .int l), (.inr "mixed", .int m), (.inr "turn", .int t)]
def absI (i : Int) : Int := if i < 0 then -i else i
theorem absI_nn (i : Int) : 0 ≤ absI i := by unfold absI; split <;> omega
def spSource (K : PySem.W.Frag) : Sp := fun vs H Q _ => ∃ (a : Addr) (ns : List Int), vs = [.ref a] ∧ SqL K H a (ns.map V.int) ∧ ns.length < sizeLine ∧ ∀ a' b' H', Same H H' → SrcAt H' a' b' → Q (.ref a') H'
theorem same_upd {H : Hp} {p : Addr} {o : HO} (h : H p = none) : Same H (upd H p o) := fun b x e => by
  rw [upd_ne (ne_of_none e h)]
  exact e
theorem mod_rng (x : Int) {m : Int} (h : 0 < m) : 0 ≤ x % m ∧ x % m < m := ⟨Int.emod_nonneg x (by omega), Int.emod_lt_of_pos x h⟩
theorem cmul_r {i j : Int} (h : -(2 ^ 64) < j ∧ j < 2 ^ 64) : CMul i j := .inr h
theorem sem_source {K : PySem.W.Frag} {vs : List V} {H : Hp} {Q : VK} (h : spSource K vs H Q E0) : tSource K { nx := fun _ H' => Q .non H', rt := Q } (L2.start ["script", "mixed", "cell"] vs) H := by
  obtain ⟨a, ns, rfl, hS, hl, q⟩ := h
  show tSource K { nx := fun _ H' => Q .non H', rt := Q } [some (.ref a), none, none] H
  refine ⟨.ref a, rfl, a, rfl, ⟨_, hS⟩, ?_⟩
  refine ⟨fun i m σ H' => H' = H ∧ i ≤ ns.length ∧ m = ns.length - i ∧ ∃ mx y2, σ = [some (.ref a), some (.int mx), y2] ∧ 0 ≤ mx ∧ mx < 2147483648, ⟨ns.length, rfl, Nat.zero_le _, rfl, 11, none, rfl, by decide, by decide⟩, ?_⟩
  rintro i m σ H' ⟨rfl, hi, rfl, mx, y2, rfl, m1, m2⟩
  by_cases lt : i < ns.length
  · refine .inr ⟨⟨_, .int ns[i], hS, by rw [List.getElem?_map, List.getElem?_eq_getElem lt]; rfl⟩, fun σ' H'' => H'' = H' ∧ ∃ mx y2, σ' = [some (.ref a), some (.int mx), y2] ∧ 0 ≤ mx ∧ mx < 2147483648, ?_, ?_⟩
    · rintro σ' H'' ⟨rfl, mx, y2, rfl, n1, n2⟩
      exact ⟨ns.length - (i + 1), by omega, rfl, lt, rfl, mx, y2, rfl, n1, n2⟩
    · rintro x H'' ⟨rfl, hx⟩
      have ex := hx _ hS
      rw [List.getElem?_map, List.getElem?_eq_getElem lt] at ex
      cases ex
      refine ⟨.int mx, rfl, mx, 69069, rfl, rfl, cmul_r (by decide), .int ns[i], rfl, _, 31, rfl, rfl, cmul_r (by decide), _, _, rfl, rfl, _, _, rfl, rfl, .inl ⟨_, rfl, _, _, rfl, rfl, (show (0 : Int) < 2147483629 by decide), ?_⟩⟩
      have g := mod_rng (mx * 69069 + ns[i] * 31 + 5) (m := 2147483629) (by decide)
      exact ⟨rfl, _, some (.int ns[i]), rfl, g.1, by omega⟩
  · refine .inl ⟨⟨_, hS, by rw [List.length_map]; omega⟩, ?_⟩
    intro p hp
    have s1 : Same H' (upd H' p (.dK [])) := same_upd hp
    refine ⟨.ref a, rfl, a, rfl, ⟨_, s1.seq hS⟩, ?_⟩
    intro D hD
    have nDp : p ≠ D := fun e => by subst e; rw [upd_same] at hD; cases hD
    have s2 : Same (upd H' p (.dK [])) (upd (upd H' p (.dK [])) D (.lst [])) := same_upd hD
    refine ⟨fun i m H2 => i ≤ ns.length ∧ m = ns.length - i ∧ Same H' H2 ∧ H2 p = some (.dK []) ∧ H2 D = some (.lst ((ns.take i).map fun c => .int (absI c))), ⟨ns.length, Nat.zero_le _, rfl, s1.trans s2, ?_, by rw [upd_same]; rfl⟩, ?_⟩
    · rw [upd_ne nDp, upd_same]
    · rintro i m H2 ⟨hi, rfl, sm, h1, h2⟩
      have hA : SqL K H2 a (ns.map V.int) := sm.seq hS
      by_cases lt : i < ns.length
      · refine .inr ⟨⟨_, .int ns[i], hA, by rw [List.getElem?_map, List.getElem?_eq_getElem lt]; rfl⟩, fun H3 => Same H' H3 ∧ H3 p = some (.dK []) ∧ H3 D = some (.lst ((ns.take (i + 1)).map fun c => .int (absI c))), ?_, ?_⟩
        · rintro H3 ⟨g1, g2, g3⟩
          exact ⟨ns.length - (i + 1), by omega, lt, rfl, g1, g2, g3⟩
        · rintro x H3 ⟨rfl, hx⟩
          have ex := hx _ hA
          rw [List.getElem?_map, List.getElem?_eq_getElem lt] at ex
          cases ex
          have nDH : H' D = none := by rw [upd_ne (fun e => nDp e.symm)] at hD; exact hD
          refine ⟨rfl, ?_⟩
          show tCB rAbs1 (tCons (tVar 2) tNil) _ _ _
          refine ⟨.int ns[i], rfl, ns[i], rfl, _, h2, by rw [List.length_map, List.length_take]; omega, ?_, ?_, ?_⟩
          · intro b o e
            rw [upd_ne (ne_of_none e nDH)]
            exact sm _ _ e
          · rw [upd_ne nDp]; exact h1
          · rw [upd_same, List.take_add_one, List.getElem?_eq_getElem lt, List.map_append]
            rfl
      · have ei : ns.take i = ns := List.take_of_length_le (by omega)
        rw [ei] at h2
        refine .inl ⟨⟨_, hA, by rw [List.length_map]; omega⟩, D, _, rfl, .inl (.inl h2), ?_⟩
        intro c hc
        have nc : p ≠ c := fun e => by subst e; rw [h1] at hc; cases hc
        have s3 : Same H2 (upd H2 c (.lst ((ns.map fun x => V.int (absI x)).reverse))) := same_upd hc
        refine ⟨.int mx, rfl, ?_⟩
        refine ⟨by rw [upd_ne nc]; exact h1, [(.inr "cells", .ref c), (.inr "left", .int 1), (.inr "mixed", .int mx), (.inr "turn", .int 0)], rfl, (show 4 ≤ 15 by decide), ?_⟩
        have mk : mergeK [] [((.inr "cells" : Key), V.ref c), (.inr "left", .int 1), (.inr "mixed", .int mx), (.inr "turn", .int 0)] = skv c 1 mx 0 := by rfl
        rw [mk]
        refine q p c _ ?_ ⟨nc, (ns.map absI).reverse, 1, mx, 0, upd_same, ?_, ?_, by decide, m1, m2, by decide⟩
        · intro b o e
          have nb : b ≠ p := ne_of_none e hp
          rw [upd_ne nb]
          exact s3 _ _ (sm _ _ e)
        · rw [upd_ne nc.symm, upd_same, List.map_reverse, List.map_map]
          rfl
        · intro x hx
          rw [List.mem_reverse, List.mem_map] at hx
          obtain ⟨y, _, rfl⟩ := hx
          exact absI_nn y

/-! ### a pick -/
def tPick (K : PySem.W.Frag) : TS :=
  tSeq (tWhile (tAnd (tGtI (tVar 1) (tK 1)) (tAnd (tLtI (tDGet (tVar 0) (tS "left")) (tK 2)) (tGtI (tCB (rLenS K) (tCons (tDGet (tVar 0) (tS "cells")) tNil)) (tK 0)))) (sDPut (tVar 0) (tS "left") (tBM0 K "list" rPop (tDGet (tVar 0) (tS "cells")))))
  (tSeq (tAsg (tDGet (tVar 0) (tS "left")) (gName 2))
  (tSeq (tIfS (tOr (tLtI (tVar 1) (tK 2)) (tGtI (tVar 2) (tK 1)))
    (tSeq (sDPut (tVar 0) (tS "left") (tDivI (tVar 2) (tCB rMaxI (tCons (tK 1) (tCons (tVar 1) tNil))))) (tRet (tModI (tIntC (tVar 2)) (tCB rMaxI (tCons (tK 1) (tCons (tVar 1) tNil)))))) tNext)
  (tSeq (sDPut (tVar 0) (tS "turn") (tAddI (tDGet (tVar 0) (tS "turn")) (tK 1)))
  (tSeq (tAsg (tModI (tIntC (tAddI (tDGet (tVar 0) (tS "mixed")) (tMulI (tDGet (tVar 0) (tS "turn")) (tK 104729)))) (tK 998244353)) (gName 3))
  (tSeq (tAsg (tModI (tIntC (tAddI (tMulI (tVar 3) (tVar 3)) (tMulI (tDGet (tVar 0) (tS "turn")) (tK 17)))) (tK 2147483647)) (gName 3))
  (tSeq (sDPut (tVar 0) (tS "mixed") (tVar 3))
  (tRet (tModI (tIntC (tDivI (tVar 3) (tK 16))) (tVar 1)))))))))
structure S4 (H : Hp) (a b : Addr) (cs : List Int) (l m t : Int) : Prop where
  ne : a ≠ b
  ha : H a = some (.dK (skv b l m t))
  hb : H b = some (.lst (cs.map V.int))
  cs : ∀ c ∈ cs, 0 ≤ c
  l0 : 0 ≤ l
  m0 : 0 ≤ m
  m1 : m < 2147483648
  t0 : 0 ≤ t
/-- the heap but for the source -/
def Off (a b : Addr) (H H' : Hp) : Prop := ∀ c, c ≠ a → c ≠ b → H' c = H c
theorem Off.refl {a b : Addr} {H : Hp} : Off a b H H := fun _ _ _ => rfl
theorem Off.put {a b : Addr} {H H' : Hp} {o : HO} (h : Off a b H H') : Off a b H (upd H' a o) := fun c h1 h2 => by rw [upd_ne h1]; exact h c h1 h2
theorem Off.putB {a b : Addr} {H H' : Hp} {o : HO} (h : Off a b H H') : Off a b H (upd H' b o) := fun c h1 h2 => by rw [upd_ne h2]; exact h c h1 h2
theorem off_ext {a b : Addr} {F H H' : Hp} (bs : Base (some (a, b)) F H) (o : Off a b H H') (s : SrcAt H' a b) : Ext2 (some (a, b)) F H F H' where
  sF := Same.refl F
  sH := fun c u e n => by rw [o c (fun z => n (.inl z)) (fun z => n (.inr z))]; exact e
  le := fun c u e => by
    have n1 : c ≠ a := fun z => by subst z; rw [bs.no c (.inl rfl)] at e; cases e
    have n2 : c ≠ b := fun z => by subst z; rw [bs.no c (.inr rfl)] at e; cases e
    rw [o c n1 n2]; exact bs.le _ _ e
  fr := fun _ _ e => .inl e
  ok := s
section
variable {H : Hp} {a b : Addr} {cs : List Int} {l m t : Int}
theorem S4.src (h : S4 H a b cs l m t) : SrcAt H a b := ⟨h.ne, cs, l, m, t, h.ha, h.hb, h.cs, h.l0, h.m0, h.m1, h.t0⟩
theorem S4.cells (h : S4 H a b cs l m t) : DGet H a (.str "cells") (some (.ref b)) := DGet.k (k := .inr "cells") h.ha
theorem S4.left (h : S4 H a b cs l m t) : DGet H a (.str "left") (some (.int l)) := DGet.k (k := .inr "left") h.ha
theorem S4.mixed (h : S4 H a b cs l m t) : DGet H a (.str "mixed") (some (.int m)) := DGet.k (k := .inr "mixed") h.ha
theorem S4.turn (h : S4 H a b cs l m t) : DGet H a (.str "turn") (some (.int t)) := DGet.k (k := .inr "turn") h.ha
theorem S4.putL (h : S4 H a b cs l m t) {x : Int} (hx : 0 ≤ x) : DPut H a (.str "left") (.int x) (upd H a (.dK (skv b x m t))) ∧ S4 (upd H a (.dK (skv b x m t))) a b cs x m t :=
  ⟨DPut.k (k := .inr "left") h.ha (show 4 < sizeLine by decide), ⟨h.ne, upd_same, by rw [upd_ne h.ne.symm]; exact h.hb, h.cs, hx, h.m0, h.m1, h.t0⟩⟩
theorem S4.putM (h : S4 H a b cs l m t) {x : Int} (hx : 0 ≤ x) (hx1 : x < 2147483648) : DPut H a (.str "mixed") (.int x) (upd H a (.dK (skv b l x t))) ∧ S4 (upd H a (.dK (skv b l x t))) a b cs l x t :=
  ⟨DPut.k (k := .inr "mixed") h.ha (show 4 < sizeLine by decide), ⟨h.ne, upd_same, by rw [upd_ne h.ne.symm]; exact h.hb, h.cs, h.l0, hx, hx1, h.t0⟩⟩
theorem S4.putT (h : S4 H a b cs l m t) {x : Int} (hx : 0 ≤ x) : DPut H a (.str "turn") (.int x) (upd H a (.dK (skv b l m x))) ∧ S4 (upd H a (.dK (skv b l m x))) a b cs l m x :=
  ⟨DPut.k (k := .inr "turn") h.ha (show 4 < sizeLine by decide), ⟨h.ne, upd_same, by rw [upd_ne h.ne.symm]; exact h.hb, h.cs, h.l0, h.m0, h.m1, hx⟩⟩
end
def wfPick : WF := fun ds Q => match ds with
  | [.int m] => m < 1073741824 ∧ ∀ r, 0 ≤ r → r < max 1 m → Q (.int r)
  | _ => False
theorem max_if (m : Int) : (if m > 1 then m else 1) = max 1 m := by
  by_cases h : m > 1
  · rw [if_pos h]; omega
  · rw [if_neg h]; omega
set_option maxHeartbeats 1000000 in
theorem sem_pick {K : PySem.W.Frag} {vs : List V} {H : Hp} {Q : VK} (h : spS K 1 wfPick vs H Q E0) : tPick K { nx := fun _ H' => Q .non H', rt := Q } (L2.start ["source", "many", "left", "mixed"] vs) H := by
  obtain ⟨a, b, vs', F, ds, P, rfl, bs, hd, hl, hw, k⟩ := h
  obtain ⟨d, rfl⟩ : ∃ d, ds = [d] := by
    match ds, hl with
    | [d], _ => exact ⟨d, rfl⟩
  cases hd with
  | cons hd0 hn =>
  cases hn
  cases d <;> first | exact hw.elim | skip
  rename_i m
  cases hd0
  obtain ⟨hm, hw⟩ := hw
  show tPick K { nx := fun _ H' => Q .non H', rt := Q } [some (.ref a), some (.int m), none, none] H
  -- the answer
  have fin : ∀ (r : Int) (H' : Hp), 0 ≤ r → r < max 1 m → Off a b H H' → SrcAt H' a b → Q (.int r) H' := fun r H' h1 h2 ho hs => k (.int r) (.int r) F H' (hw r h1 h2) (off_ext bs ho hs) (.int r)
  obtain ⟨ne, cs0, l0, m0, t0, sa, sb, c0, lz, mz, ms, tz⟩ := bs.ok
  have st0 : S4 H a b cs0 l0 m0 t0 := ⟨ne, sa, sb, c0, lz, mz, ms, tz⟩
  refine ⟨fun n σ H' => σ = [some (.ref a), some (.int m), none, none] ∧ Off a b H H' ∧ ∃ cs l, cs.length = n ∧ S4 H' a b cs l m0 t0, ⟨cs0.length, rfl, Off.refl, cs0, l0, rfl, st0⟩, ?_⟩
  rintro n σ H1 ⟨rfl, of, cs, l, hn, st⟩
  -- what comes behind the loop
  have behind : tSeq (tAsg (tDGet (tVar 0) (tS "left")) (gName 2))
      (tSeq (tIfS (tOr (tLtI (tVar 1) (tK 2)) (tGtI (tVar 2) (tK 1)))
        (tSeq (sDPut (tVar 0) (tS "left") (tDivI (tVar 2) (tCB rMaxI (tCons (tK 1) (tCons (tVar 1) tNil))))) (tRet (tModI (tIntC (tVar 2)) (tCB rMaxI (tCons (tK 1) (tCons (tVar 1) tNil)))))) tNext)
      (tSeq (sDPut (tVar 0) (tS "turn") (tAddI (tDGet (tVar 0) (tS "turn")) (tK 1)))
      (tSeq (tAsg (tModI (tIntC (tAddI (tDGet (tVar 0) (tS "mixed")) (tMulI (tDGet (tVar 0) (tS "turn")) (tK 104729)))) (tK 998244353)) (gName 3))
      (tSeq (tAsg (tModI (tIntC (tAddI (tMulI (tVar 3) (tVar 3)) (tMulI (tDGet (tVar 0) (tS "turn")) (tK 17)))) (tK 2147483647)) (gName 3))
      (tSeq (sDPut (tVar 0) (tS "mixed") (tVar 3))
      (tRet (tModI (tIntC (tDivI (tVar 3) (tK 16))) (tVar 1)))))))) { nx := fun _ H' => Q .non H', rt := Q } [some (.ref a), some (.int m), none, none] H1 := by
    refine ⟨.ref a, rfl, a, _, rfl, st.left, ?_⟩
    have rest : ∀ H2, Off a b H H2 → S4 H2 a b cs l m0 t0 → 2 ≤ m → (tSeq (sDPut (tVar 0) (tS "turn") (tAddI (tDGet (tVar 0) (tS "turn")) (tK 1)))
      (tSeq (tAsg (tModI (tIntC (tAddI (tDGet (tVar 0) (tS "mixed")) (tMulI (tDGet (tVar 0) (tS "turn")) (tK 104729)))) (tK 998244353)) (gName 3))
      (tSeq (tAsg (tModI (tIntC (tAddI (tMulI (tVar 3) (tVar 3)) (tMulI (tDGet (tVar 0) (tS "turn")) (tK 17)))) (tK 2147483647)) (gName 3))
      (tSeq (sDPut (tVar 0) (tS "mixed") (tVar 3))
      (tRet (tModI (tIntC (tDivI (tVar 3) (tK 16))) (tVar 1))))))) { nx := fun _ H' => Q .non H', rt := Q } [some (.ref a), some (.int m), some (.int l), none] H2 := by
      intro H2 of2 st2 m2
      obtain ⟨p1, st3⟩ := st2.putT (x := t0 + 1) (by omega)
      refine ⟨.ref a, rfl, a, _, rfl, st2.turn, t0, 1, rfl, rfl, .ref a, rfl, a, _, rfl, p1, ?_⟩
      refine ⟨.ref a, rfl, a, _, rfl, st3.mixed, .ref a, rfl, a, _, rfl, st3.turn, _, _, rfl, rfl, cmul_r (by decide), _, _, rfl, rfl, .inl ⟨_, rfl, _, _, rfl, rfl, (show (0 : Int) < 998244353 by decide), ?_⟩⟩
      have g1 := mod_rng (m0 + (t0 + 1) * 104729) (m := 998244353) (by decide)
      dsimp only
      generalize (m0 + (t0 + 1) * 104729) % 998244353 = x1 at g1 ⊢
      refine ⟨.int x1, rfl, .int x1, rfl, _, _, rfl, rfl, .inl ⟨by omega, by omega⟩, .ref a, rfl, a, _, rfl, st3.turn, _, _, rfl, rfl, cmul_r (by decide), _, _, rfl, rfl, .inl ⟨_, rfl, _, _, rfl, rfl, (show (0 : Int) < 2147483647 by decide), ?_⟩⟩
      have g2 := mod_rng (x1 * x1 + (t0 + 1) * 17) (m := 2147483647) (by decide)
      dsimp only
      generalize (x1 * x1 + (t0 + 1) * 17) % 2147483647 = x2 at g2 ⊢
      obtain ⟨p2, st4⟩ := st3.putM (x := x2) g2.1 (by omega)
      refine ⟨.int x2, rfl, .ref a, rfl, a, _, rfl, p2, ?_⟩
      refine ⟨.int x2, rfl, x2, 16, rfl, rfl, ⟨by decide, by decide⟩, .inl ⟨_, rfl, .int m, rfl, _, _, rfl, rfl, (show (0 : Int) < m by omega), ?_⟩⟩
      have g3 := mod_rng (x2 / 16) (m := m) (by omega)
      exact fin _ _ g3.1 (by omega) (Off.put (Off.put of2)) st4.src
    have early : 0 ≤ l → (tSeq (sDPut (tVar 0) (tS "left") (tDivI (tVar 2) (tCB rMaxI (tCons (tK 1) (tCons (tVar 1) tNil))))) (tRet (tModI (tIntC (tVar 2)) (tCB rMaxI (tCons (tK 1) (tCons (tVar 1) tNil))))))
        { nx := fun σ' H' => (tSeq (sDPut (tVar 0) (tS "turn") (tAddI (tDGet (tVar 0) (tS "turn")) (tK 1)))
      (tSeq (tAsg (tModI (tIntC (tAddI (tDGet (tVar 0) (tS "mixed")) (tMulI (tDGet (tVar 0) (tS "turn")) (tK 104729)))) (tK 998244353)) (gName 3))
      (tSeq (tAsg (tModI (tIntC (tAddI (tMulI (tVar 3) (tVar 3)) (tMulI (tDGet (tVar 0) (tS "turn")) (tK 17)))) (tK 2147483647)) (gName 3))
      (tSeq (sDPut (tVar 0) (tS "mixed") (tVar 3))
      (tRet (tModI (tIntC (tDivI (tVar 3) (tK 16))) (tVar 1))))))) { nx := fun _ H' => Q .non H', rt := Q } σ' H', rt := Q } [some (.ref a), some (.int m), some (.int l), none] H1 := by
      intro _
      have mp : (0 : Int) < max 1 m := by omega
      have ml : max 1 m < 1073741824 := by omega
      obtain ⟨p1, st3⟩ := st.putL (x := l / max 1 m) (Int.ediv_nonneg st.l0 (by omega))
      refine ⟨.int l, rfl, .int m, rfl, 1, m, rfl, l, _, rfl, rfl, ?_, .ref a, rfl, a, _, rfl, by rw [max_if]; exact p1, ?_⟩
      · rw [max_if]; exact ⟨mp, ml⟩
      · refine ⟨.int l, rfl, .inl ⟨_, rfl, .int m, rfl, 1, m, rfl, l, _, rfl, rfl, ?_, ?_⟩⟩
        · rw [max_if]; exact mp
        · rw [max_if]
          have g := mod_rng l mp
          exact fin _ _ g.1 g.2 (Off.put of) st3.src
    refine ⟨.int m, rfl, m, 2, rfl, rfl, _, rfl, ?_⟩
    by_cases h2 : m < 2
    · rw [decide_eq_true h2]
      exact early st.l0
    · rw [decide_eq_false h2]
      refine ⟨.int l, rfl, l, 1, rfl, rfl, _, rfl, ?_⟩
      by_cases h3 : 1 < l
      · rw [decide_eq_true h3]
        exact early st.l0
      · rw [decide_eq_false h3]
        exact rest H1 of st (by omega)
  refine ⟨.int m, rfl, m, 1, rfl, rfl, _, rfl, ?_⟩
  by_cases h1 : 1 < m
  · rw [decide_eq_true h1]
    refine ⟨.ref a, rfl, a, _, rfl, st.left, l, 2, rfl, rfl, _, rfl, ?_⟩
    by_cases h2 : l < 2
    · rw [decide_eq_true h2]
      refine ⟨.ref a, rfl, a, _, rfl, st.cells, b, _, rfl, .inl (.inl (.inl st.hb)), _, 0, rfl, rfl, _, rfl, ?_⟩
      by_cases h3 : (0 : Int) < ((cs.map V.int).length : Nat)
      · rw [decide_eq_true h3]
        show (if (true : Bool) = true then _ else _)
        rw [if_pos rfl]
        have pos : 0 < cs.length := by rw [List.length_map] at h3; omega
        have lt : cs.length - 1 < cs.length := by omega
        refine ⟨fun σ' H' => σ' = [some (.ref a), some (.int m), none, none] ∧ Off a b H H' ∧ ∃ cs' l, cs'.length < n ∧ S4 H' a b cs' l m0 t0, ?_, ?_⟩
        · rintro σ' H' ⟨rfl, of', cs', l', c1, c2⟩
          exact ⟨cs'.length, c1, rfl, of', cs', l', rfl, c2⟩
        · refine ⟨.ref a, rfl, a, _, rfl, st.cells, .inl ⟨rfl, _, .inl (.inl st.hb)⟩, b, _, .int cs[cs.length - 1], rfl, rfl, st.hb, by rw [List.length_map, List.getElem?_map, List.getElem?_eq_getElem lt]; rfl, ?_⟩
          have st2 : S4 (upd H1 b (.lst (cs.map V.int).dropLast)) a b cs.dropLast l m0 t0 := ⟨st.ne, by rw [upd_ne st.ne]; exact st.ha, by rw [upd_same, List.map_dropLast], fun c hc => st.cs c (List.dropLast_subset _ hc), st.l0, st.m0, st.m1, st.t0⟩
          obtain ⟨p1, st3⟩ := st2.putL (x := cs[cs.length - 1]) (st.cs _ (List.getElem_mem _))
          refine ⟨.ref a, rfl, a, _, rfl, p1, rfl, (of.putB).put, cs.dropLast, _, ?_, st3⟩
          rw [List.length_dropLast]
          omega
      · rw [decide_eq_false h3]
        show (if (false : Bool) = true then _ else _)
        rw [if_neg Bool.false_ne_true]
        exact behind
    · rw [decide_eq_false h2]
      show (if (false : Bool) = true then _ else _)
      rw [if_neg Bool.false_ne_true]
      exact behind
  · rw [decide_eq_false h1]
    show (if (false : Bool) = true then _ else _)
    rw [if_neg Bool.false_ne_true]
    exact behind
end W2

set_option Elab.async false
set_option linter.all false
set_option maxRecDepth 100000
/-! W2Q: things mixed, one of some; the law's own end. -/
namespace W2
open PySem PySem.Spec PyProof.Rows L2

abbrev rList1 (K : PySem.W.Frag) : List V → Hp → VK → Prop := fun xs H Q => ∃ p ys, xs = [.ref p] ∧ (SqL K H p ys ∨ SqT K H p ys) ∧ ∀ l, H l = none → Q (.ref l) (upd H l (.lst ys))
abbrev tPickLen (K : PySem.W.Frag) (i j : Nat) : TE := tCall (spS K 1 wfPick) [] E0 (tCons (tVar i) (tCons (tCB (rLenS K) (tCons (tVar j) tNil)) tNil))
def tMixRet (K : PySem.W.Frag) : TS := tRet (tLc (iRng1 (tCons (tCB (rLenS K) (tCons (tVar 2) tNil)) tNil)) (gName 3) tYes (tBM K "list" rPopAt (tVar 2) (tCons (tPickLen K 0 2) tNil)) [3])
def tMixed (K : PySem.W.Frag) : TS := tSeq (tAsg (tCB (rList1 K) (tCons (tVar 1) tNil)) (gName 2)) (tMixRet K)
def wMixRet : WS := fun D η => match (η[0]? : Option Slot), (η[2]? : Option Slot) with
  | some .src, some (.ow (.list xs)) => xs.length < 16777216 ∧ ∀ ys, ys.Perm xs → D.rt (.list ys)
  | _, _ => False
theorem Ext2.keepNT {sx : Sx} {F H F' H' : Hp} {c : Addr} {o : HO} (e : Ext2 sx F H F' H') (hn : ¬ inSx sx c) (f : F c = none) (h : H c = some o) (nt : ∀ xs, o ≠ .tup xs) : F' c = none ∧ H' c = some o := by
  have hb := e.sH _ _ h hn
  refine ⟨?_, hb⟩
  cases z : F' c with
  | none => rfl
  | some u =>
    rcases e.fr _ _ z with y | y | ⟨ys, rfl⟩
    · rw [f] at y; cases y
    · rw [h] at y; cases y
    · have q := e.le _ _ z
      rw [hb] at q
      exact absurd (Option.some.inj q) (nt ys)
/-- what is new may change -/
theorem Ext2.putNew {sx : Sx} {F H F' H' : Hp} {c : Addr} {o : HO} (e : Ext2 sx F H F' H') (hn : ¬ inSx sx c) (h : H c = none) (f : F' c = none) : Ext2 sx F H F' (upd H' c o) where
  sF := e.sF
  sH := fun b u z n => by rw [upd_ne (ne_of_none z h)]; exact e.sH _ _ z n
  le := fun b u z => by rw [upd_ne (ne_of_none z f)]; exact e.le _ _ z
  fr := e.fr
  ok := by
    cases sx with
    | none => trivial
    | some p =>
      obtain ⟨a1, b1⟩ := p
      obtain ⟨n, cs, l, m, t, z1, z2, z⟩ := e.ok
      exact ⟨n, cs, l, m, t, by rw [upd_ne (fun z => hn (.inl z.symm))]; exact z1, by rw [upd_ne (fun z => hn (.inr z.symm))]; exact z2, z⟩
def hideAt (H : Hp) (c : Addr) : Hp := fun b => if b = c then none else H b
theorem hide_at {H : Hp} {c : Addr} : hideAt H c c = none := if_pos rfl
theorem hide_ne {H : Hp} {b c : Addr} (h : b ≠ c) : hideAt H c b = H b := if_neg h
theorem DtL.eraseIdx {K : PySem.W.Frag} {F : Hp} {vs : List V} {ds : List D} (h : DtL K F vs ds) (i : Nat) : DtL K F (vs.eraseIdx i) (ds.eraseIdx i) := by
  rw [List.eraseIdx_eq_take_drop_succ, List.eraseIdx_eq_take_drop_succ]
  exact (h.take i).append (h.drop (i + 1))
theorem perm_erase {α : Type} {xs : List α} {i : Nat} {x : α} (h : xs[i]? = some x) : (x :: xs.eraseIdx i).Perm xs := by
  obtain ⟨hi, e⟩ := List.getElem?_eq_some_iff.mp h
  rw [List.eraseIdx_eq_take_drop_succ]
  have q : xs = xs.take i ++ x :: xs.drop (i + 1) := by
    rw [← e, ← List.drop_eq_getElem_cons hi, List.take_append_drop]
  refine List.Perm.trans ?_ (List.Perm.of_eq q.symm)
  exact List.perm_middle.symm
theorem seqIndex_nn {r : Int} {n : Nat} (h0 : 0 ≤ r) (h1 : r < n) : seqIndex? r n = some r.toNat := by
  unfold seqIndex?
  have e : ¬ r < 0 := by omega
  simp [e, h0, h1]
set_option maxHeartbeats 1000000 in
theorem sem_mixRet {K : PySem.W.Frag} : SemS K (tMixRet K) wMixRet := fun {sx H0 F0 F σ H η D R} r hw k => by
  unfold wMixRet at hw
  split at hw
  · rename_i xs hi0 hi2
    obtain ⟨hlen, hw⟩ := hw
    obtain ⟨v0, hv0, a, b, rfl, rfl⟩ := r.val hi0
    obtain ⟨v2, hv2, c, rfl, ho, hFc, h0c, hnc⟩ := r.val hi2
    obtain ⟨vs, hHc, hvs⟩ := ho
    -- c hidden: what is there is what stood there, but for c
    have bc : Base (some (a, b)) F (hideAt H c) := ⟨fun x o e => by rw [hide_ne (ne_of_none e hFc)]; exact r.base.le _ _ e, by
      obtain ⟨n, cs, l, m, t, z1, z2, z⟩ := r.base.ok
      exact ⟨n, cs, l, m, t, by rw [hide_ne (fun z => hnc (.inl z.symm))]; exact z1, by rw [hide_ne (fun z => hnc (.inr z.symm))]; exact z2, z⟩, r.base.no⟩
    have e0 : Ext2 (some (a, b)) F0 H0 F (hideAt H c) := ⟨r.f0, fun x o e n => by rw [hide_ne (ne_of_none e h0c)]; exact r.s0 _ _ e n, bc.le, r.fr, bc.ok⟩
    have eH : Ext2 (some (a, b)) F (hideAt H c) F H := ⟨Same.refl F, fun x o e n => by
      have nx : x ≠ c := fun z => by subst z; rw [hide_at] at e; cases e
      rw [hide_ne nx] at e; exact e, r.base.le, fun _ _ e => .inl e, r.base.ok⟩
    refine ⟨.ref c, hv2, c, vs, rfl, .inl (.inl (.inl hHc)), (vs.length : Nat), rfl, by omega, ?_, ?_⟩
    · rw [hvs.length]; omega
    intro Dd hD
    have nDc : Dd ≠ c := fun e => by subst e; rw [hHc] at hD; cases hD
    have nDx : ¬ inSx (some (a, b)) Dd := fun z => by obtain ⟨o, q⟩ := r.base.ok.there z; rw [hD] at q; cases q
    have hDh : hideAt H c Dd = none := by rw [hide_ne nDc]; exact hD
    have hDF : F Dd = none := by
      cases z : F Dd with
      | none => rfl
      | some u => rw [r.base.le _ _ z] at hD; cases hD
    have e3 : (vs.length : Int).toNat = xs.length := by rw [hvs.length]; omega
    refine ⟨fun i m H' => i ≤ xs.length ∧ m = xs.length - i ∧ ∃ F' rem acc vr va, Ext2 (some (a, b)) F (hideAt H c) F' H' ∧ F' c = none ∧ H' c = some (.lst vr) ∧ DtL K F' vr rem ∧ F' Dd = none ∧ H' Dd = some (.lst va) ∧ DtL K F' va acc ∧
      (acc ++ rem).Perm xs ∧ acc.length = i, ⟨xs.length, Nat.zero_le _, rfl, F, xs, [], vs, [], eH.putNew nDx hDh hDF, hFc, by rw [upd_ne nDc.symm]; exact hHc, hvs, hDF, upd_same, .nil, List.Perm.refl _, rfl⟩, ?_⟩
    rintro i m H' ⟨hi, rfl, F', rem, acc, vr, va, ex, f1, f2, f3, f4, f5, f6, pm, la⟩
    have ltot : acc.length + rem.length = xs.length := by rw [← List.length_append]; exact pm.length_eq
    by_cases lt : i < xs.length
    · refine .inr ⟨(by show i < _; rw [e3]; exact lt), fun H3 => ∃ F' rem acc vr va, Ext2 (some (a, b)) F (hideAt H c) F' H3 ∧ F' c = none ∧ H3 c = some (.lst vr) ∧ DtL K F' vr rem ∧ F' Dd = none ∧ H3 Dd = some (.lst va) ∧ DtL K F' va acc ∧
      (acc ++ rem).Perm xs ∧ acc.length = i + 1, ?_, ?_⟩
      · rintro H3 ⟨F3, rem3, acc3, vr3, va3, g⟩
        exact ⟨xs.length - (i + 1), by omega, lt, rfl, F3, rem3, acc3, vr3, va3, g⟩
      · rintro x H3 ⟨rfl, rfl⟩
        have w0 : (L2.wipe σ [3])[0]? = some (some (.ref a)) := by
          show (σ.set 3 none)[0]? = _
          rw [List.getElem?_set_ne (by decide)]; exact hv0
        have w2 : (L2.wipe σ [3])[2]? = some (some (.ref c)) := by
          show (σ.set 3 none)[2]? = _
          rw [List.getElem?_set_ne (by decide)]; exact hv2
        have y0 : ((L2.wipe σ [3]).set 3 (some (.int (0 + (i : Nat)))))[0]? = some (some (.ref a)) := by rw [List.getElem?_set_ne (by decide)]; exact w0
        have y2 : ((L2.wipe σ [3]).set 3 (some (.int (0 + (i : Nat)))))[2]? = some (some (.ref c)) := by rw [List.getElem?_set_ne (by decide)]; exact w2
        refine ⟨?_, ?_⟩
        · show ((σ.set 3 none).set 3 (some _)).set 3 none = σ.set 3 none
          rw [List.set_set, List.set_set]
        · refine ⟨.ref c, y2, .inl ⟨rfl, _, .inl (.inl f2)⟩, .ref a, y0, .ref c, y2, c, vr, rfl, .inl (.inl (.inl f2)), ?_⟩
          show spS K 1 wfPick _ _ _ E0
          have b3 := ex.base bc
          have lr : vr.length = rem.length := f3.length
          refine ⟨a, b, [.int (vr.length : Nat)], F', [.int (vr.length : Nat)], fun d => ∃ q, d = .int q ∧ 0 ≤ q ∧ q < max 1 (vr.length : Int), rfl, b3, .one (.int _), rfl, ⟨by omega, fun q h1 h2 => ⟨q, rfl, h1, h2⟩⟩, ?_⟩
          rintro d v F4 H4 ⟨q, rfl, q1, q2⟩ e4 hv
          cases hv
          obtain ⟨g1, g2⟩ := e4.keepNT hnc f1 f2 (fun _ z => nomatch z)
          obtain ⟨g4, g5⟩ := e4.keepNT nDx f4 f5 (fun _ z => nomatch z)
          have qlt : q < (vr.length : Int) := by omega
          have kl : q.toNat < vr.length := by omega
          have kl2 : q.toNat < rem.length := by omega
          have f3' := f3.mono e4.sF
          obtain ⟨v', hv', hd'⟩ := f3'.get q.toNat (List.getElem?_eq_getElem kl2)
          refine ⟨c, vr, q, q.toNat, v', rfl, rfl, g2, by omega, by omega, seqIndex_nn q1 qlt, hv', va, by rw [upd_ne nDc]; exact g5, by rw [f6.length, sizeLine_eq]; omega, ?_⟩
          have e5 := ex.trans e4
          refine ⟨F4, rem.eraseIdx q.toNat, acc ++ [rem[q.toNat]], vr.eraseIdx q.toNat, va ++ [v'], (e5.putNew hnc hide_at g1).putNew nDx hDh g4, g1, by rw [upd_ne nDc.symm, upd_same], f3'.eraseIdx _, g4, upd_same, (f6.mono e4.sF).append (.one hd'), ?_, by rw [List.length_append, la]; rfl⟩
          refine List.Perm.trans ?_ pm
          rw [List.append_assoc]
          exact List.Perm.append_left acc (perm_erase (List.getElem?_eq_getElem kl2))
    · have ei : i = xs.length := by omega
      have er : rem = [] := List.eq_nil_of_length_eq_zero (by omega)
      subst er
      rw [List.append_nil] at pm
      refine .inl ⟨(by show _ ≤ i; rw [e3]; omega), ?_⟩
      have e6 := e0.trans ex
      refine k.rt (.list acc) (.ref Dd) (upd F' Dd (.lst va)) H' (hw acc pm) ⟨?_, e6.sH, ?_, ?_, e6.ok⟩ (.lst upd_same (f6.mono ?_))
      · intro x o h
        rw [upd_ne (ne_of_none (e6.sF _ _ h) f4)]
        exact e6.sF _ _ h
      · intro x o h
        by_cases hb : x = Dd
        · subst hb; rw [upd_same] at h; cases h; exact f5
        · rw [upd_ne hb] at h; exact e6.le _ _ h
      · intro x o h
        by_cases hb : x = Dd
        · subst hb; exact .inr (.inl (e0.back hDh))
        · rw [upd_ne hb] at h; exact e6.fr _ _ h
      · intro x o h
        rw [upd_ne (ne_of_none h f4)]
        exact h
  · exact hw.elim
def wfMixed : WF := fun ds Q => match ds with
  | [.list xs] => xs.length < 16777216 ∧ ∀ ys, ys.Perm xs → Q (.list ys)
  | [.tuple xs] => xs.length < 16777216 ∧ ∀ ys, ys.Perm xs → Q (.list ys)
  | _ => False
theorem sem_mixed {K : PySem.W.Frag} {vs : List V} {H : Hp} {Q : VK} (h : spS K 1 wfMixed vs H Q E0) : tMixed K { nx := fun _ H' => Q .non H', rt := Q } (L2.start ["source", "things", "rest", "lap"] vs) H := by
  obtain ⟨a, b, vs', F, ds, P, rfl, bs, hd, hl, hw, k⟩ := h
  have r := rep_startS (N := ["source", "things", "rest", "lap"]) bs hd
  obtain ⟨d, rfl⟩ : ∃ d, ds = [d] := by
    match ds, hl with
    | [d], _ => exact ⟨d, rfl⟩
  obtain ⟨v, rfl, hv⟩ : ∃ v, vs' = [v] ∧ Dt K F v d := by
    cases hd with
    | cons h t => cases t; exact ⟨_, rfl, h⟩
  have go : ∀ (xs : List D) (p : Addr) (ys : List V), v = .ref p → (SqL K H p ys ∨ SqT K H p ys) → DtL K F ys xs → xs.length < 16777216 → (∀ ys, ys.Perm xs → P (.list ys)) → tMixed K { nx := fun _ H' => Q .non H', rt := Q } (L2.start ["source", "things", "rest", "lap"] [.ref a, v]) H := by
    intro xs p ys ev hs hy hl hp
    subst ev
    refine ⟨.ref p, rfl, p, ys, rfl, hs, fun l hl0 => ?_⟩
    have nl : F l = none := by
      cases z : F l with
      | none => rfl
      | some u => rw [bs.le _ _ z] at hl0; cases hl0
    have e1 := Ext2.newF (o := .lst ys) bs hl0
    have r1 := r.setOw e1 2 (a := l) (d := .list xs) ⟨ys, upd_same, hy⟩ nl hl0
    refine sem_mixRet r1 (D := { nx := fun _ => False, rt := P }) ?_ ⟨fun _ _ _ _ q => q.elim, fun _ _ _ _ q => q.elim, fun _ _ _ _ q => q.elim, fun d v F' H' q e h => k d v F' H' q e h⟩
    exact ⟨hl, hp⟩
  cases d <;> first | exact hw.elim | skip
  · rename_i xs
    cases hv with
    | lst h1 h2 => exact go xs _ _ rfl (.inl (SqL.of (bs.le _ _ h1))) h2 hw.1 hw.2
  · rename_i xs
    cases hv with
    | tup h1 h2 => exact go xs _ _ rfl (.inr (SqT.of (bs.le _ _ h1))) h2 hw.1 hw.2
def wfOf : WF := fun ds Q => match ds with
  | [.list xs] => xs ≠ [] ∧ xs.length < 1073741824 ∧ ∀ x ∈ xs, Q x
  | [.tuple xs] => xs ≠ [] ∧ xs.length < 1073741824 ∧ ∀ x ∈ xs, Q x
  | _ => False
/-- the wb of one of some -/
def wbOf : WS := wRet (w2 gIx (wB 1) (wFnS 0 1 wfPick (wCons (wCall gLen (wCons (wB 1) wNil)) wNil)))
end W2

set_option Elab.async false
set_option linter.all false
set_option maxRecDepth 100000
/-! W2M: rows of frozen values and of new objects; a, b = x, y. -/
namespace W2
open PySem PySem.Spec PyProof.Rows L2

section
variable {K : PySem.W.Frag} {sx : Sx} {H0 F0 F H F1 H1 Hb : Hp} {σ : L2.St} {η : En}
/-- an object of its own at a slot -/
theorem Rep.setOwN (r : Rep K sx H0 F0 F σ H η) (i : Nat) {a : Addr} {d : D} (ho : OwnAt K F H a d) (hf : F a = none) (h0 : H0 a = none) (hn : ¬ inSx sx a) (hs : ∀ (j : Nat) (d' : D), η[j]? = some (.ow d') → σ[j]? = some (some (.ref a)) → False) :
    Rep K sx H0 F0 F (σ.set i (some (.ref a))) H (η.set i (.ow d)) where
  base := r.base
  s0 := r.s0
  f0 := r.f0
  fr := r.fr
  len := by rw [List.length_set, List.length_set]; exact r.len
  sl := fun j s x h1 h2 => by
    by_cases e : i = j
    · subst e
      have hi : i < η.length := by have := (List.getElem?_eq_some_iff.mp h1).1; simpa using this
      have hi' : i < σ.length := by rw [← r.len]; exact hi
      rw [List.getElem?_set_self hi] at h1
      rw [List.getElem?_set_self hi'] at h2
      cases h1; cases h2
      exact ⟨a, rfl, ho, hf, h0, hn⟩
    · rw [List.getElem?_set_ne e] at h1 h2
      exact r.sl j s x h1 h2
  sep := fun j k d1 d2 b h1 h2 h3 h4 => by
    have self : ∀ (m : Nat) (d : D), i = m → (η.set i (.ow d))[m]? = some (.ow d) → (σ.set i (some (V.ref a)))[m]? = some (some (.ref b)) → b = a := fun m d e z1 z2 => by
      subst e
      have hi : i < η.length := by have := (List.getElem?_eq_some_iff.mp z1).1; simpa using this
      have hi' : i < σ.length := by rw [← r.len]; exact hi
      rw [List.getElem?_set_self hi'] at z2
      cases z2; rfl
    by_cases e1 : i = j
    · by_cases e2 : i = k
      · exact e1.symm.trans e2
      · exfalso
        have hi : i < η.length := by subst e1; have := (List.getElem?_eq_some_iff.mp h1).1; simpa using this
        have hb : b = a := self j d e1 (by subst e1; rw [List.getElem?_set_self hi]) h3
        subst hb
        rw [List.getElem?_set_ne e2] at h2 h4
        exact hs k d2 h2 h4
    · by_cases e2 : i = k
      · exfalso
        have hi : i < η.length := by subst e2; have := (List.getElem?_eq_some_iff.mp h2).1; simpa using this
        have hb : b = a := self k d e2 (by subst e2; rw [List.getElem?_set_self hi]) h4
        subst hb
        rw [List.getElem?_set_ne e1] at h1 h3
        exact hs j d1 h1 h3
      · rw [List.getElem?_set_ne e1] at h1 h3
        rw [List.getElem?_set_ne e2] at h2 h4
        exact r.sep j k d1 d2 b h1 h2 h3 h4
/-- a value for a slot; an object of its own is new since Hb -/
def MV (K : PySem.W.Frag) (Hb F H : Hp) (v : V) : Slot → Prop
  | .fz d => Dt K F v d
  | .ow d => ∃ a, v = .ref a ∧ OwnAt K F H a d ∧ F a = none ∧ Hb a = none
  | _ => False
inductive MRow (K : PySem.W.Frag) (Hb F H : Hp) : List V → List Slot → Prop
  | nil : MRow K Hb F H [] []
  | cons {v : V} {s : Slot} {vs : List V} {ss : List Slot} : MV K Hb F H v s → (∀ d, s = .ow d → v ∉ vs) → MRow K Hb F H vs ss → MRow K Hb F H (v :: vs) (s :: ss)
theorem own_keep {a : Addr} {d : D} (e : Ext2 sx F H F1 H1) (b : Base sx F H) (ho : OwnAt K F H a d) (hf : F a = none) (hn : ¬ inSx sx a) : OwnAt K F1 H1 a d ∧ F1 a = none := by
  have h1 := ho.mono e.sF fun o z => e.sH a o z hn
  refine ⟨h1, ?_⟩
  cases z : F1 a with
  | none => rfl
  | some u =>
    rcases e.fr _ _ z with y | y | ⟨xs, rfl⟩
    · rw [hf] at y; cases y
    · obtain ⟨o, ho'⟩ := ho.there
      rw [y] at ho'; cases ho'
    · exact absurd (e.le _ _ z) (ho.notup fun o z => e.sH a o z hn)
abbrev WM := En → (List Slot → Prop) → Prop
def ContM (K : PySem.W.Frag) (sx : Sx) (F H : Hp) (Q : List Slot → Prop) (R : List V → Hp → Prop) : Prop := ∀ ss vs F' H', Q ss → Ext2 sx F H F' H' → MRow K H F' H' vs ss → R vs H'
def SemM (K : PySem.W.Frag) (t : TA) (w : WM) : Prop := ∀ {sx : Sx} {H0 F0 F : Hp} {σ : L2.St} {H : Hp} {η : En} {Q : List Slot → Prop} {R : List V → Hp → Prop}, Rep K sx H0 F0 F σ H η → w η Q → ContM K sx F H Q R → t σ H R
theorem MRow.back (e : Ext2 sx F H F1 H1) {F2 H2 : Hp} : ∀ {vs : List V} {ss : List Slot}, MRow K H1 F2 H2 vs ss → MRow K H F2 H2 vs ss
  | _, _, .nil => .nil
  | _, _, .cons (s := s) h d t => .cons (by
    cases s with
    | fz d => exact h
    | ow d => obtain ⟨a, h1, h2, h3, h4⟩ := h; exact ⟨a, h1, h2, h3, e.back h4⟩
    | _ => exact h.elim) d (MRow.back e t)
theorem MRow.fresh {a : Addr} {o : HO} (hH : Hb a = some o) (hF : F a = none) : ∀ {vs : List V} {ss : List Slot}, MRow K Hb F H vs ss → V.ref a ∉ vs
  | _, _, .nil => by simp
  | _, _, .cons (v := v) (s := s) h d t => by
    intro z
    rcases List.mem_cons.mp z with z | z
    · subst z
      cases s with
      | fz d =>
        cases h with
        | lst q _ => rw [hF] at q; cases q
        | tup q _ => rw [hF] at q; cases q
        | dK q _ => rw [hF] at q; cases q
        | dT q _ => rw [hF] at q; cases q
      | ow d => obtain ⟨a', e, _, _, h4⟩ := h; cases e; rw [hH] at h4; cases h4
      | _ => exact h.elim
    · exact MRow.fresh hH hF t z
end
structure DM (X : Cx) (es : List Expr) (t : TA) (w : WM) : Prop where
  pa : PA X es t
  sem : SemM X.K t w
def wMNil : WM := fun _ Q => Q []
def wMFz (we : WE) (w : WM) : WM := fun η Q => we η fun d => w η fun ss => Q (.fz d :: ss)
def wMOw (we : WE) (w : WM) : WM := fun η Q => we η fun d => w η fun ss => Q (.ow d :: ss)
section
variable {X : Cx} {e : Expr} {es : List Expr} {te : TE} {t : TA} {we : WE} {w : WM}
theorem dm_nil : DM X [] tNil wMNil := ⟨pa_nil, fun r hw k => k [] [] _ _ hw (.refl r.base) .nil⟩
theorem dm_fz (h : DE X e te we) (hr : DM X es t w) (hs : starEach (e :: es) X.env = (false, eval e X.env) :: starEach es X.env := by rfl) : DM X (e :: es) (tCons te t) (wMFz we w) :=
  ⟨pa_cons h.pe hr.pa hs, fun r hw k => h.sem r hw fun d v F1 H1 q e hd => hr.sem (r.ext e) q fun ss vs F2 H2 q2 e2 m => k _ _ F2 H2 q2 (e.trans e2) (.cons (hd.mono e2.sF) (fun _ z => nomatch z) (m.back e))⟩
theorem own_row {K : PySem.W.Frag} {sx : Sx} {H0 F0 F H F1 H1 F2 H2 : Hp} {σ : L2.St} {η : En} {a : Addr} {d : D} {vs : List V} {ss : List Slot} (r : Rep K sx H0 F0 F σ H η) (e : Ext2 sx F H F1 H1) (e2 : Ext2 sx F1 H1 F2 H2) (ho : OwnAt K F1 H1 a d) (hf : F1 a = none) (hn : H a = none) (m : MRow K H1 F2 H2 vs ss) :
    MRow K H F2 H2 (.ref a :: vs) (.ow d :: ss) := by
  have nx : ¬ inSx sx a := fun z => by obtain ⟨o, q⟩ := r.base.ok.there z; rw [hn] at q; cases q
  obtain ⟨g1, g2⟩ := own_keep e2 (e.base r.base) ho hf nx
  obtain ⟨o, g3⟩ := ho.there
  exact .cons ⟨a, rfl, g1, g2, hn⟩ (fun _ _ => m.fresh g3 g2) (m.back e)
theorem dm_ow (h : DL X e te we) (hr : DM X es t w) (hs : starEach (e :: es) X.env = (false, eval e X.env) :: starEach es X.env := by rfl) : DM X (e :: es) (tCons te t) (wMOw we w) :=
  ⟨pa_cons h.pe hr.pa hs, fun r hw k => h.sem r hw fun ds xs a F1 H1 q e h1 h2 h3 h4 => hr.sem (r.ext e) q fun ss vs F2 H2 q2 e2 m => k _ _ F2 H2 q2 (e.trans e2) (own_row (d := .list ds) r e e2 ⟨xs, h1, h2⟩ h3 h4 m)⟩
theorem dm_owD (h : DD X e te we) (hr : DM X es t w) (hs : starEach (e :: es) X.env = (false, eval e X.env) :: starEach es X.env := by rfl) : DM X (e :: es) (tCons te t) (wMOw we w) :=
  ⟨pa_cons h.pe hr.pa hs, fun r hw k => h.sem r hw fun ds a F1 H1 q e h1 h2 h3 => hr.sem (r.ext e) q fun ss vs F2 H2 q2 e2 m => k _ _ F2 H2 q2 (e.trans e2) (own_row r e e2 h1 h2 h3 m)⟩
end
/-- slots set in a row -/
def setAll : L2.St → List Nat → List V → L2.St
  | σ, i :: is, v :: vs => setAll (σ.set i (some v)) is vs
  | σ, _, _ => σ
def setAllE : En → List Nat → List Slot → En
  | η, i :: is, s :: ss => setAllE (η.set i s) is ss
  | η, _, _ => η
theorem Rep.setM {K : PySem.W.Frag} {sx : Sx} {H0 F0 F H Hb : Hp} (h0 : ∀ a, Hb a = none → H0 a = none ∧ ¬ inSx sx a) : ∀ {vs : List V} {ss : List Slot} (is : List Nat) {σ : L2.St} {η : En}, MRow K Hb F H vs ss → Rep K sx H0 F0 F σ H η →
    (∀ (i : Nat) (d : D) (b : Addr), η[i]? = some (.ow d) → σ[i]? = some (some (.ref b)) → Hb b ≠ none ∨ V.ref b ∉ vs) → Rep K sx H0 F0 F (setAll σ is vs) H (setAllE η is ss)
  | _, _, [], _, _, .nil, r, _ => r
  | _, _, [], _, _, .cons _ _ _, r, _ => r
  | _, _, _ :: _, _, _, .nil, r, _ => r
  | _, _, i :: is, σ, η, .cons (v := v) (s := s) (vs := vs) (ss := ss) h d t, r, c => by
    have key : Rep K sx H0 F0 F (σ.set i (some v)) H (η.set i s) ∧ ∀ (j : Nat) (d : D) (b : Addr), (η.set i s)[j]? = some (.ow d) → (σ.set i (some v))[j]? = some (some (.ref b)) → Hb b ≠ none ∨ V.ref b ∉ vs := by
      have old : ∀ (j : Nat) (d : D) (b : Addr), i ≠ j → (η.set i s)[j]? = some (.ow d) → (σ.set i (some v))[j]? = some (some (.ref b)) → Hb b ≠ none ∨ V.ref b ∉ vs := fun j d b ne z1 z2 => by
        rw [List.getElem?_set_ne ne] at z1 z2
        rcases c j d b z1 z2 with q | q
        · exact .inl q
        · exact .inr fun z => q (List.mem_cons_of_mem _ z)
      cases s with
      | fz d =>
        refine ⟨r.setFz i h, fun j d' b z1 z2 => ?_⟩
        by_cases e : i = j
        · subst e
          have hi : i < η.length := by have := (List.getElem?_eq_some_iff.mp z1).1; simpa using this
          rw [List.getElem?_set_self hi] at z1; cases z1
        · exact old j d' b e z1 z2
      | ow d' =>
        obtain ⟨a, rfl, ho, hf, hb⟩ := h
        obtain ⟨g0, gx⟩ := h0 a hb
        refine ⟨r.setOwN i ho hf g0 gx fun j d2 z1 z2 => ?_, fun j d2 b z1 z2 => ?_⟩
        · rcases c j d2 a z1 z2 with q | q
          · exact q hb
          · exact q List.mem_cons_self
        · by_cases e : i = j
          · subst e
            have hi : i < η.length := by have := (List.getElem?_eq_some_iff.mp z1).1; simpa using this
            have hi' : i < σ.length := by rw [← r.len]; exact hi
            rw [List.getElem?_set_self hi'] at z2
            cases z2
            exact .inr (d d' rfl)
          · exact old j d2 b e z1 z2
      | _ => exact h.elim
    exact Rep.setM h0 is t key.1 key.2
theorem Rep.setMs {K : PySem.W.Frag} {sx : Sx} {H0 F0 F H F1 H1 : Hp} {σ : L2.St} {η : En} {vs : List V} {ss : List Slot} (r : Rep K sx H0 F0 F σ H η) (e : Ext2 sx F H F1 H1) (m : MRow K H F1 H1 vs ss) (is : List Nat) : Rep K sx H0 F0 F1 (setAll σ is vs) H1 (setAllE η is ss) := by
  refine Rep.setM (Hb := H) (fun a hn => ?_) is m (r.ext e) (fun i d b z1 z2 => ?_)
  · have nx : ¬ inSx sx a := fun z => by obtain ⟨o, q⟩ := r.base.ok.there z; rw [hn] at q; cases q
    refine ⟨?_, nx⟩
    cases q : H0 a with
    | none => rfl
    | some o => rw [r.s0 a o q nx] at hn; cases hn
  · obtain ⟨a, e1, ho, _⟩ := r.sl i _ _ z1 z2
    cases e1
    obtain ⟨o, q⟩ := ho.there
    exact .inl (by rw [q]; simp)
/-- a, b, .. = x, y, .. : plain names -/
def wPar (is : List Nat) (w : WM) : WS := fun D η => w η fun ss => ss.length = is.length ∧ D.nx (setAllE η is ss)
theorem MRow.length {K : PySem.W.Frag} {Hb F H : Hp} : ∀ {vs : List V} {ss : List Slot}, MRow K Hb F H vs ss → vs.length = ss.length
  | _, _, .nil => rfl
  | _, _, .cons _ _ t => congrArg (· + 1) t.length
section
variable {X : Cx} {a b c : Expr} {ta : TA} {w : WM} {x y z : Str} {px py pz pt pos : Pos} {kt k2 : Nat} {pt2 : Pos}
theorem sem_par2 {K : PySem.W.Frag} {i j : Nat} (h : SemM K ta w) : SemS K (tPar i j ta) (wPar [i, j] w) := fun {sx H0 F0 F σ H η D R} r hw k => h r hw fun ss vs F1 H1 q e m => by
  obtain ⟨v1, v2, rfl⟩ : ∃ v1 v2, vs = [v1, v2] := by
    match vs, m.length.trans q.1 with
    | [v1, v2], _ => exact ⟨v1, v2, rfl⟩
  exact ⟨v1, v2, rfl, k.nx _ _ _ _ q.2 e.sF (r.setMs e m [i, j])⟩
theorem sem_par3 {K : PySem.W.Frag} {i j l : Nat} (h : SemM K ta w) : SemS K (tPar3 i j l ta) (wPar [i, j, l] w) := fun {sx H0 F0 F σ H η D R} r hw k => h r hw fun ss vs F1 H1 q e m => by
  obtain ⟨v1, v2, v3, rfl⟩ : ∃ v1 v2 v3, vs = [v1, v2, v3] := by
    match vs, m.length.trans q.1 with
    | [v1, v2, v3], _ => exact ⟨v1, v2, v3, rfl⟩
  exact ⟨v1, v2, v3, rfl, k.nx _ _ _ _ q.2 e.sF (r.setMs e m [i, j, l])⟩
theorem ds_par2 (i j : Nat) (hc : X.calm = true) (hN : X.N.Nodup) (h : DM X [a, b] ta w) (hi : X.N[i]? = some x := by rfl) (hj : X.N[j]? = some y := by rfl) (hij : i ≠ j := by decide)
    (hx : X.env.scope.names.lookup x = some .local := by rfl) (hy : X.env.scope.names.lookup y = some .local := by rfl)
    (hw : swappedStores [.Tuple [.Name x px, .Name y py] kt pt] (.Tuple [a, b] k2 pt2) X.env = pure (some [x, y]) := by rfl)
    (hs : swapsWithSole [.Tuple [.Name x px, .Name y py] kt pt] (.Tuple [a, b] k2 pt2) pos.line X.env = pure false := by rfl) :
    DS X (.Assign [.Tuple [.Name x px, .Name y py] kt pt] (.Tuple [a, b] k2 pt2) pos) (tPar i j ta) (wPar [i, j] w) := ⟨ps_par hc hN hi hj hij hx hy h.pa hw hs, sem_par2 h.sem⟩
theorem ds_par3 (i j l : Nat) (hc : X.calm = true) (hN : X.N.Nodup) (h : DM X [a, b, c] ta w) (hi : X.N[i]? = some x := by rfl) (hj : X.N[j]? = some y := by rfl) (hl : X.N[l]? = some z := by rfl) (hij : i ≠ j := by decide) (hil : i ≠ l := by decide) (hjl : j ≠ l := by decide)
    (hx : X.env.scope.names.lookup x = some .local := by rfl) (hy : X.env.scope.names.lookup y = some .local := by rfl) (hz : X.env.scope.names.lookup z = some .local := by rfl)
    (hw : swappedStores [.Tuple [.Name x px, .Name y py, .Name z pz] kt pt] (.Tuple [a, b, c] k2 pt2) X.env = pure (some [x, y, z]) := by rfl)
    (hs : swapsWithSole [.Tuple [.Name x px, .Name y py, .Name z pz] kt pt] (.Tuple [a, b, c] k2 pt2) pos.line X.env = pure false := by rfl) :
    DS X (.Assign [.Tuple [.Name x px, .Name y py, .Name z pz] kt pt] (.Tuple [a, b, c] k2 pt2) pos) (tPar3 i j l ta) (wPar [i, j, l] w) := ⟨ps_par3 hc hN hi hj hl hij hil hjl hx hy hz h.pa hw hs, sem_par3 h.sem⟩
/-- .. through a tuple that nobody keeps -/
def tgNames : List Nat → TGs
  | [] => gNil
  | i :: is => gCons (gName i) (tgNames is)
theorem tg_names {Q : L2.St → Hp → Prop} : ∀ (is : List Nat) {vs : List V} {σ : L2.St} {H : Hp}, vs.length = is.length → Q (setAll σ is vs) H → tgNames is vs σ H Q
  | [], [], _, _, _, q => ⟨rfl, q⟩
  | i :: is, v :: vs, _, _, hl, q => ⟨v, vs, rfl, tg_names is (by simpa using hl) q⟩
  | [], _ :: _, _, _, hl, _ => by simp at hl
  | _ :: _, [], _, _, hl, _ => by simp at hl
theorem sem_parT {K : PySem.W.Frag} {is : List Nat} (hz : is.length ≤ 1000) (h : SemM K ta w) : SemS K (tAsg (tTup ta) (gTup K is.length (tgNames is))) (wPar is w) := fun {sx H0 F0 F σ H η D R} r hw k => h r hw fun ss vs F1 H1 q e m => by
  have hl : vs.length = is.length := m.length.trans q.1
  refine ⟨by rw [hl, sizeLine_eq]; omega, fun p hp => ⟨p, vs, rfl, .inl (.inl upd_same), hl, tg_names is hl ?_⟩⟩
  have r1 := r.setMs e m is
  exact k.nx _ _ _ _ q.2 e.sF (r1.ext (.newF r1.base hp))
theorem ds_parT {es : List Expr} {tgs : List Expr} {is : List Nat} (hc : X.calm = true) (h : DM X es ta w) (hg : PGs X tgs (tgNames is)) (hz : is.length ≤ 1000 := by decide) (hn : (assignEach tgs X.env).length = is.length := by rfl) (hst : (assignEach tgs X.env).findIdx? (·.1) = none := by rfl)
    (hs : swapsWithSole [.Tuple tgs kt pt] (.Tuple es k2 pt2) pos.line X.env = pure false := by rfl) (hw : swappedStores [.Tuple tgs kt pt] (.Tuple es k2 pt2) X.env = pure none := by rfl)
    (h1 : (assignEach [.Tuple tgs kt pt] X.env).map (·.2) = [assign (.Tuple tgs kt pt) X.env] := by rfl) : DS X (.Assign [.Tuple tgs kt pt] (.Tuple es k2 pt2) pos) (tAsg (tTup ta) (gTup X.K is.length (tgNames is))) (wPar is w) :=
  ⟨ps_asg (pe_tup h.pa) (pg_tup hc hg hn hst) hs hw h1, sem_parT hz h.sem⟩
theorem pgn_nil : PGs X [] (tgNames []) := pgs_nil
theorem pgn_cons (i : Nat) {es : List Expr} {is : List Nat} (hN : X.N.Nodup) (h : PGs X es (tgNames is)) (hi : X.N[i]? = some x := by rfl) (hx : Loc X.env.scope x := by first | exact Or.inl rfl | exact Or.inr rfl)
    (hs : (assignEach (.Name x px :: es) X.env).map (·.2) = assign (.Name x px) X.env :: (assignEach es X.env).map (·.2) := by rfl) (hf : X.fn x = true ∨ X.env.scope.names.lookup x = some .local := by first | exact .inl rfl | exact .inr rfl) : PGs X (.Name x px :: es) (tgNames (i :: is)) := pgs_cons (pg_name hN hi hx hf) h hs
end
end W2

set_option Elab.async false
set_option linter.all false
set_option maxRecDepth 100000
/-! W2R: x[::-1] of a tuple, list(range), dicts made. -/
namespace W2
open PySem PySem.Spec PyProof.Rows L2

/-! ### x[::-1] -/
section
variable {prog : Program} {w : World} {A : Around} {E : Value → Shared → Prop} {s : Shared}
theorem rev_adjust (n : Nat) : Builtin.Slice.sliceAdjust none none (-1) (n : Int) = ((n : Int) - 1, -1) := rfl
theorem rev_places (n : Nat) : Builtin.Slice.slicePlaces ((n : Int) - 1) (-1) (-1) = n := by
  unfold Builtin.Slice.slicePlaces
  rw [if_neg (by decide)]
  by_cases h : (n : Int) - 1 > -1
  · rw [if_pos h, show (-(-1) : Int) = 1 by decide, Int.ediv_one]
    omega
  · rw [if_neg h]; omega
theorem fm_congr {α β : Type} {f g : α → Option β} : ∀ (l : List α), (∀ x ∈ l, f x = g x) → l.filterMap f = l.filterMap g
  | [], _ => rfl
  | x :: r, h => by
    rw [List.filterMap_cons, List.filterMap_cons, h x List.mem_cons_self, fm_congr r fun y hy => h y (List.mem_cons_of_mem _ hy)]
theorem rev_pick (xs : Array Value) : ((List.range xs.size).filterMap fun (k : Nat) => xs[(((xs.size : Int) - 1) + (k : Int) * (-1)).toNat]?).toArray = xs.toList.reverse.toArray := by
  have e : (List.range xs.size).filterMap (fun (k : Nat) => xs[(((xs.size : Int) - 1) + (k : Int) * (-1)).toNat]?) = ((List.range xs.size).map fun k => xs.size - 1 - k).filterMap (xs[·]?) := by
    rw [List.filterMap_map]
    refine fm_congr _ fun k hk => ?_
    have hk' := List.mem_range.mp hk
    show xs[(((xs.size : Int) - 1) + (k : Int) * (-1)).toNat]? = xs[xs.size - 1 - k]?
    have e1 : (((xs.size : Int) - 1) + (k : Int) * (-1)).toNat = xs.size - 1 - k := by omega
    rw [e1]
  rw [e, PySem.W.krv_range, List.filterMap_reverse, PySem.W.krv_all]
theorem sliceApplied_rev {sl : Addr} {t : Tok} {n : Nat} {Q : Int × Int × Nat → Shared → Prop} (hs : s.heap.IsSliceOf sl .none .none (.int (-1) t)) (h : Q ((n : Int) - 1, -1, n) s) : wpAny (model prog w) A (Builtin.Slice.sliceApplied (.ref sl) (pure (n : Int))) Q E s := by
  obtain ⟨os, hos, hcs, hds⟩ := id hs
  unfold Builtin.Slice.sliceApplied Builtin.Slice.sliceFields
  refine wpAny_bind (wpAny_bind (wpAny_field hos hds (x := .none) rfl (wpAny_bind (wpAny_field hos hds (x := .none) rfl (wpAny_bind (wpAny_field hos hds (x := .int (-1) t) rfl (wpAny_pure ?_)))))))
  refine wpAny_bind (slicePart_int ?_)
  show wpAny _ _ (if ((-1 : Int) == 0) = true then _ else _) _ _ s
  rw [if_neg (by decide)]
  refine wpAny_bind (slicePart_none (wpAny_bind (slicePart_none (wpAny_bind (wpAny_pure ?_)))))
  show wpAny _ _ (match Builtin.Slice.sliceAdjust none none (-1) (n : Int) with | (lo, hi) => pure (lo, (-1 : Int), Builtin.Slice.slicePlaces lo hi (-1))) _ _ s
  rw [rev_adjust]
  show wpAny _ _ (pure ((n : Int) - 1, (-1 : Int), Builtin.Slice.slicePlaces ((n : Int) - 1) (-1) (-1))) _ _ s
  rw [rev_places]
  exact wpAny_pure h
theorem getItem_tuple_rev {t sl : Addr} {items : Array Value} {tk : Tok} {Q : Value → Shared → Prop} (ht : IsTup s.heap t items) (hs : s.heap.IsSliceOf sl .none .none (.int (-1) tk))
    (h : Q (.ref s.heap.objs.size) { s with heap := s.heap.push { cls := .type "tuple", data := .seq items.toList.reverse.toArray } }) (hsz : items.size ≤ sizeLine) : wpAny (model prog w) A (getItem (.ref t) (.ref sl)) Q E s := by
  have hz : sizeOk (.seq items.toList.reverse.toArray) := by
    show items.toList.reverse.toArray.size ≤ sizeLine
    rw [List.size_toArray, List.length_reverse, Array.length_toList]
    exact hsz
  obtain ⟨os, hos, hcs, hds⟩ := id hs
  have hTs : s.TypeIs (.ref sl) "slice" := ⟨os, hos, hcs⟩
  unfold getItem
  try with_reducible refine wpAny_holding ?_
  first | refine wpAny_bind (wpAny_pure ?_) | skip
  refine wpAny_bind (wpAny_sequenceKey ht.typeIs (by decide) ?_)
  refine wpAny_bind (wpAny_callSpecial?_slot (name := Str.ofString "__getitem__") ht.typeIs PyProof.Rows.slot_tuple_getitem
    (wpAny_call_entry PyProof.Rows.slot_tuple_getitem ht.typeIs entry_tuple_getitem ?_ (args_tuple_getitem _ _)))
  show wpAny _ _ (Builtin.Tuple.tupleItemsOf (.ref t) >>= _) _ _ s
  refine wpAny_bind (tupleItemsOf_ ht ?_)
  refine wpAny_bind (wpAny_typeOf hTs ?_)
  rw [if_pos (by decide)]
  refine wpAny_bind (sliceApplied_rev hs ?_)
  show wpAny _ _ (if (((items.size : Int) - 1) == 0 && (-1 : Int) == 1 && items.size == items.size) = true then _ else _) _ _ s
  rw [if_neg (by rw [show ((-1 : Int) == 1) = false by decide, Bool.and_false, Bool.false_and]; exact Bool.false_ne_true), rev_pick]
  first
    | exact wpAny_bind (m := Builtin.Tuple.tupleExact _) (wpAny_newObj_type (wpAny_pure ⟨_, rfl, wpAny_pure h⟩) hz)
    | exact wpAny_bind (m := Builtin.Tuple.tupleExact _) (wpAny_newObj_type (wpAny_bind (wpAny_pure (wpAny_pure ⟨_, rfl, wpAny_pure h⟩))) hz)
    | exact wpAny_bind (wpAny_bind (m := Builtin.Tuple.tupleExact _) (wpAny_newObj_type (wpAny_pure (wpAny_pure ⟨_, rfl, wpAny_pure h⟩)) hz))
    | exact wpAny_bind (wpAny_bind (m := Builtin.Tuple.tupleExact _) (wpAny_newObj_type (wpAny_pure ⟨_, rfl, wpAny_pure h⟩) hz))
end
def tRevT (K : PySem.W.Frag) (te : TE) : TE := fun σ H Q => te σ H fun x H1 => ∃ a xs, x = .ref a ∧ SqT K H1 a xs ∧ ∀ p, H1 p = none → Q (.ref p) (upd H1 p (.tup xs.reverse))
def wRevT (we : WE) : WE := fun η Q => we η fun d => match d with
  | .tuple ds => Q (.tuple ds.reverse)
  | _ => False
section
variable {X : Cx} {e : Expr} {te : TE} {we : WE} {k : Nat} {p1 p2 p3 pos : Pos}
theorem pe_revT (he : PE X e te) : PE X (.Subscript e (.Slice none none (some (.UnaryOp .USub (.Constant (.int 1) k p1) p2)) p3) pos) (tRevT X.K te) := by
  refine ⟨fun pins s σ H Q I h => ?_⟩
  refine Subscript_ (thn (he.run pins s σ H _ I h) fun v s1 ⟨x, H1, I1, r1, q1⟩ => ?_)
  obtain ⟨a, xs, ex, hx, q⟩ := q1
  subst ex
  cases r1
  have hst : PO X (some (.UnaryOp .USub (.Constant (.int 1) k p1) p2)) (tPart (tUn (rU fun i => .int (-i)) (tC (.int 1)))) := po_some (pe_un un_neg pe_int)
  refine wpAny_Slice ?_
  refine wpAny_pure (wpAny_pure ?_)
  refine thn (hst.run pins s1 σ H1 (fun o H4 => o = some (-1) ∧ H4 = H1) I1 ⟨1, rfl, -1, rfl, rfl, rfl⟩) fun vs s4 ⟨o, H4, I4, ps, eo, e4⟩ => ?_
  subst eo e4
  obtain ⟨tk, rfl⟩ : ∃ tk, vs = .int (-1) tk := by cases ps; exact ⟨_, rfl⟩
  have I5 : L2.Inv X pins σ H4 { s4 with heap := s4.heap.push { cls := .type "slice", data := .fields #[.none, .none, .int (-1) tk] } } := I4.kept (t' := s4.toks) fun b ob q => Heap.get?_push_of_some _ q
  obtain ⟨its, r, ht, hz⟩ := I5.tuple hx
  have hlen := r.length
  show wpAny (model X.prog X.w) X.A (subscriptTail e (.Slice none none (some (.UnaryOp .USub (.Constant (.int 1) k p1) p2)) p3) (.ref a) (.ref s4.heap.objs.size)) (EP X pins σ Q) X.xe { s4 with heap := s4.heap.push { cls := .type "slice", data := .fields #[.none, .none, .int (-1) tk] } }
  refine tail_any (ops := [.ref a, .ref s4.heap.objs.size]) (Heap.IsTuple.typeIs ht) (PyProof.Rows.slot_tuple_getitem.lookup) ?_ (by with_unfolding_all rfl)
  refine getItem_tuple_rev ht (Heap.IsSliceOf.new _ _ _ _) ?_ (by rw [List.size_toArray]; omega)
  refine ⟨.ref _, _, I5.laid (t' := s4.toks) (o := .tup xs.reverse) (fun b ob q => Heap.get?_push_of_some _ q) (Nat.le_refl _) ?_, rfl, q _ (I5.hok.fresh (Nat.le_refl _))⟩
  exact ⟨by rw [List.length_reverse]; exact hz, _, r.reverse, IsTup.new _ _⟩
theorem de_revT (he : DE X e te we) : DE X (.Subscript e (.Slice none none (some (.UnaryOp .USub (.Constant (.int 1) k p1) p2)) p3) pos) (tRevT X.K te) (wRevT we) :=
  ⟨pe_revT he.pe, fun {sx H0 F0 F σ H η Q R} r hw kk => he.sem r hw fun d v F1 H1 q e hd => by
    cases d <;> first | exact q.elim | skip
    cases hd with
    | tup h1 h2 => exact ⟨_, _, rfl, SqT.of ((r.ext e).base.le _ _ h1), (kk.ext e).tup (r.ext e).base q h2.reverse⟩⟩
end

/-! ### list(range(..)), tuple(range(..)) -/
theorem DtL.rg {K : PySem.W.Frag} {F : Hp} (a b : Int) : DtL K F (rgV a b) (rangeD a (b - a).toNat) := by
  unfold rgV rangeD
  generalize List.range (b - a).toNat = l
  induction l with
  | nil => exact .nil
  | cons x r ih => exact .cons (.int _) ih
def rgOk (a b : Int) : Prop := -1073741824 ≤ a ∧ a ≤ 1073741824 ∧ -1073741824 ≤ b ∧ b ≤ 1073741824 ∧ b - a ≤ 16777216
theorem rgOk.ok {a b : Int} (h : rgOk a b) : RgOk a b := by
  obtain ⟨h1, h2, h3, h4, h5⟩ := h
  exact ⟨by omega, by omega, by omega, by omega, by omega⟩
/-- a range as an argument -/
structure DRg (X : Cx) (e : Expr) (t : L2.St → Hp → (Int → Int → Hp → Prop) → Prop) (w : En → (Int → Int → Prop) → Prop) : Prop where
  run : PRg X e t
  sem : ∀ {sx : Sx} {H0 F0 F : Hp} {σ : L2.St} {H : Hp} {η : En} {Q : Int → Int → Prop} {R : Int → Int → Hp → Prop}, Rep X.K sx H0 F0 F σ H η → w η Q → (∀ a b F' H', Q a b → Ext2 sx F H F' H' → R a b H') → t σ H R
def wR1 (wa : WE) : En → (Int → Int → Prop) → Prop := fun η Q => wa η fun d => match d with
  | .int n => Q 0 n
  | _ => False
def wR2 (wa wb : WE) : En → (Int → Int → Prop) → Prop := fun η Q => wa η fun d => wb η fun e => match d, e with
  | .int m, .int n => Q m n
  | _, _ => False
section
variable {X : Cx} {a b : Expr} {ta tb : TE} {wa wb : WE} {p pos : Pos}
theorem drg_1 (hg : Gl X "range") (hm : X.mg "range" = none) (ha : DO X a ta wa) (na : starEach [a] X.env = (false, eval a X.env) :: starEach [] X.env := by rfl) : DRg X (.Call (.Name "range" p) [a] [] pos) (tRg1 ta) (wR1 wa) :=
  ⟨prg_1 hg hm ha.pe na, fun {sx H0 F0 F σ H η Q R} r hw k => ha.sem r hw fun d v F1 H1 q e o => by
    cases d <;> first | exact q.elim | skip
    cases (o.nw (r.ext e)).int
    exact ⟨_, rfl, k _ _ F1 H1 q e⟩⟩
theorem drg_2 (hg : Gl X "range") (hm : X.mg "range" = none) (ha : DO X a ta wa) (hb : DO X b tb wb) (na : starEach [a, b] X.env = (false, eval a X.env) :: starEach [b] X.env := by rfl)
    (nb : starEach [b] X.env = (false, eval b X.env) :: starEach [] X.env := by rfl) (hp : (backTo pos (starEach [b] X.env)).any (·.1) = false := by rfl) : DRg X (.Call (.Name "range" p) [a, b] [] pos) (tRg2 ta tb) (wR2 wa wb) :=
  ⟨prg_2 hg hm ha.pe hb.pe na nb hp, fun {sx H0 F0 F σ H η Q R} r hw k => ha.sem r hw fun d v F1 H1 q1 e1 o1 => hb.sem (r.ext e1) q1 fun d2 v2 F2 H2 q e2 o2 => by
    cases d <;> cases d2 <;> first | exact q.elim | skip
    have r2 := (r.ext e1).ext e2
    cases ((o1.mono e2.sF).nw r2).int
    cases (o2.nw r2).int
    exact ⟨_, _, rfl, rfl, k _ _ F2 H2 q (e1.trans e2)⟩⟩
end
def wLstRg (w : En → (Int → Int → Prop) → Prop) : WE := fun η Q => w η fun a b => rgOk a b ∧ Q (.list (rangeD a (b - a).toNat))
def wTupRg (w : En → (Int → Int → Prop) → Prop) : WE := fun η Q => w η fun a b => rgOk a b ∧ Q (.tuple (rangeD a (b - a).toNat))
section
variable {X : Cx} {e : Expr} {t : L2.St → Hp → (Int → Int → Hp → Prop) → Prop} {w : En → (Int → Int → Prop) → Prop} {p pos : Pos}
theorem dl_listRg (hc : X.calm = true) (hg : Gl X "list") (hm : X.mg "list" = none) (h : DRg X e t w) (na : starEach [e] X.env = (false, eval e X.env) :: starEach [] X.env := by rfl) : DL X (.Call (.Name "list" p) [e] [] pos) (tLstRg t) (wLstRg w) :=
  ⟨pe_listRg hc hg hm h.run na, fun {sx H0 F0 F σ H η Q R} r hw k => h.sem r hw fun a b F1 H1 q e => ⟨q.1.ok, (k.ext e).new (r.ext e).base q.2 (.rg a b)⟩⟩
theorem de_tupRg (hc : X.calm = true) (hg : Gl X "tuple") (hm : X.mg "tuple" = none) (h : DRg X e t w) (na : starEach [e] X.env = (false, eval e X.env) :: starEach [] X.env := by rfl) : DE X (.Call (.Name "tuple" p) [e] [] pos) (tTupRg t) (wTupRg w) :=
  ⟨pe_tupRg hc hg hm h.run na, fun {sx H0 F0 F σ H η Q R} r hw k => h.sem r hw fun a b F1 H1 q e => ⟨q.1.ok, (k.ext e).tup (r.ext e).base q.2 (.rg a b)⟩⟩
end

/-! ### dicts made -/
theorem ContD.new {K : PySem.W.Frag} {sx : Sx} {F H : Hp} {Q : D → Prop} {R : VK} (k : ContD K sx F H Q R) (b : Base sx F H) {es : List (D × D)} {o : HO} (q : Q (.dict es)) {p : Addr} (hp : H p = none) (ho : OwnAt K F (upd H p o) p (.dict es)) : R (.ref p) (upd H p o) := by
  refine k es p F (upd H p o) q (.newF b hp) ho ?_ hp
  cases z : F p with
  | none => rfl
  | some u => rw [b.le _ _ z] at hp; cases hp
def wDNew : WE := fun _ Q => Q (.dict [])
section
variable {X : Cx} {pos : Pos}
theorem dd_nil : DD X (.Dict [] [] pos) tDNewK wDNew := ⟨pe_dnewK, fun r hw k p hp => k.new r.base hw hp (.inl ⟨[], upd_same, .nil⟩)⟩
end
/-- the pairs of a list: (key, value) with flat keys -/
def pairsK : List D → Option (List (Key × D))
  | [] => some []
  | .tuple [.int i, v] :: r => (pairsK r).map ((.inl i, v) :: ·)
  | .tuple [.str x, v] :: r => (pairsK r).map ((.inr x, v) :: ·)
  | _ => none
def mergeD (kvs : List (Key × D)) : List (D × D) := kvs.foldl (fun acc kv => dPut acc (kD kv.1) kv.2) []
def gDictP : List D → (D → Prop) → Prop
  | [.list ds], Q => ∃ kvs, pairsK ds = some kvs ∧ Q (.dict (mergeD kvs))
  | [.dict es], Q => Q (.dict es)
  | _, _ => False
theorem pairs_dt {K : PySem.W.Frag} {F H : Hp} (le : Same F H) : ∀ {ds : List D} {vs : List V} {kvs : List (Key × D)}, DtL K F vs ds → pairsK ds = some kvs → ∃ (ps : List Addr) (kvv : List (Key × V)), vs = ps.map V.ref ∧ Paired (fun p kv => SqT K H p [kV kv.1, kv.2]) ps kvv ∧ Paired (fun (x : Key × V) (y : Key × D) => x.1 = y.1 ∧ Dt K F x.2 y.2) kvv kvs
  | [], _, _, .nil, e => by
    cases e
    exact ⟨[], [], rfl, .nil, .nil⟩
  | d :: ds, _, kvs, .cons (v := v0) (vs := vs0) h t, e => by
    have go : ∀ (k : Key) (v : D) (r : List (Key × D)), d = .tuple [kD k, v] → pairsK ds = some r → kvs = (k, v) :: r →
        ∃ (ps : List Addr) (kvv : List (Key × V)), v0 :: vs0 = ps.map V.ref ∧ Paired (fun p kv => SqT K H p [kV kv.1, kv.2]) ps kvv ∧ Paired (fun (x : Key × V) (y : Key × D) => x.1 = y.1 ∧ Dt K F x.2 y.2) kvv kvs := fun k v r e1 e2 e3 => by
      obtain ⟨ps, kvv, h1, h2, h3⟩ := pairs_dt le t e2
      subst e1 e3
      cases h with
      | tup h4 h5 =>
        rename_i a xs
        cases h5 with
        | cons a1 a2 =>
          cases a2 with
          | cons a3 a4 =>
            cases a4
            have ek := a1.keyV
            subst ek
            exact ⟨a :: ps, (k, _) :: kvv, by rw [List.map_cons, h1], .cons (SqT.of (le _ _ h4)) h2, .cons ⟨rfl, a3⟩ h3⟩
    unfold pairsK at e
    split at e
    · rename_i heq; cases heq
    · rename_i i v r heq
      cases heq
      cases q : pairsK ds with
      | none => rw [q] at e; cases e
      | some r => rw [q] at e; cases e; exact go (.inl i) v r rfl q rfl
    · rename_i i v r heq
      cases heq
      cases q : pairsK ds with
      | none => rw [q] at e; cases e
      | some r => rw [q] at e; cases e; exact go (.inr i) v r rfl q rfl
    · cases e
theorem merge_dt {K : PySem.W.Frag} {F : Hp} : ∀ {kvv : List (Key × V)} {kvs : List (Key × D)} {acc : List (Key × V)} {es : List (D × D)}, Paired (fun (x : Key × V) (y : Key × D) => x.1 = y.1 ∧ Dt K F x.2 y.2) kvv kvs → DtK K F acc es →
    DtK K F (kvv.foldl (fun acc kv => putK acc kv.1 kv.2) acc) (kvs.foldl (fun acc kv => dPut acc (kD kv.1) kv.2) es)
  | _, _, _, _, .nil, h => h
  | _, _, acc, es, .cons (a := x) (b := y) hx t, h => by
    obtain ⟨e, hv⟩ := hx
    refine merge_dt t (acc := putK acc x.1 x.2) (es := dPut es (kD y.1) y.2) ?_
    rw [← e]
    exact h.put hv
def CSemD (K : PySem.W.Frag) (r : List V → Hp → VK → Prop) (g : List D → (D → Prop) → Prop) : Prop :=
  ∀ {sx : Sx} {F H : Hp} {vs : List V} {ds : List D} {Q : D → Prop} {R : VK}, Base sx F H → Paired (Nw K F H) vs ds → g ds Q → ContD K sx F H Q R → r vs H R
def rDictA (K : PySem.W.Frag) : List V → Hp → VK → Prop := fun xs H Q => (∃ (a : Addr) (ps : List Addr) (kvs : List (Key × V)), xs = [.ref a] ∧ SqL K H a (ps.map V.ref) ∧ Paired (fun p kv => SqT K H p [kV kv.1, kv.2]) ps kvs ∧ ∀ p, H p = none → Q (.ref p) (upd H p (.dK (mergeK [] kvs)))) ∨
  ∃ (a : Addr) (kvs : List (Key × V)), xs = [.ref a] ∧ Rd H a (.dK kvs) ∧ ∀ p, H p = none → Q (.ref p) (upd H p (.dK kvs))
theorem cr_dict {X : Cx} (hc : X.calm = true) : CallR X (.type "dict") (rDictA X.K) := CallR.or (call_dictP hc) call_dictD
def dictFlat (es : List (D × D)) : Bool := es.all fun e => match e.1 with
  | .tuple _ => false
  | _ => true
def gDictA : List D → (D → Prop) → Prop
  | [.list ds], Q => ∃ kvs, pairsK ds = some kvs ∧ Q (.dict (mergeD kvs))
  | [.dict es], Q => dictFlat es = true ∧ es ≠ [] ∧ Q (.dict es)
  | _, _ => False
theorem cs_dict {K : PySem.W.Frag} : CSemD K (rDictA K) gDictA := fun {sx F H vs ds Q R} b h hg k => by
  match ds, hg with
  | [.list ds], hg =>
    obtain ⟨kvs, e, q⟩ := hg
    obtain ⟨v, rfl, hv⟩ := Nws.one h
    obtain ⟨a, xs, rfl, h1, h2⟩ := hv.list b.le
    obtain ⟨ps, kvv, rfl, h3, h4⟩ := pairs_dt b.le h2 e
    exact .inl ⟨a, ps, kvv, rfl, SqL.of h1, h3, fun p hp => k.new b q hp (.inl ⟨_, upd_same, merge_dt h4 .nil⟩)⟩
  | [.dict es], hg =>
    obtain ⟨f, ne, q⟩ := hg
    obtain ⟨v, rfl, hv⟩ := Nws.one h
    obtain ⟨a, rfl, hd⟩ := hv.dict b.le
    rcases hd with ⟨kvs, rd, hd⟩ | ⟨kvs, rd, hd⟩
    · exact .inr ⟨a, kvs, rfl, rd, fun p hp => k.new b q hp (.inl ⟨_, upd_same, hd⟩)⟩
    · cases hd with
      | nil => exact absurd rfl ne
      | cons _ _ => cases f
section
variable {X : Cx} {id T : String} {r : List V → Hp → VK → Prop} {g : List D → (D → Prop) → Prop} {x : Str} {p pos : Pos} {e : Expr} {es : List Expr} {ta : TA} {wa : WA}
theorem sem_cbD {K : PySem.W.Frag} (hs : CSemD K r g) (ha : SemA K ta wa) : SemD K (tCB r ta) (wCall g wa) := fun {sx H0 F0 F σ H η Q R} rp hw k => ha rp hw fun ds vs F1 H1 q e o => hs (rp.ext e).base (o.nws (rp.ext e)) q (k.ext e)
theorem dd_callT (hc : CallR X (.type T) r) (hs : CSemD X.K r g) (hv : bootBuiltins x = some (.type T)) (hg : Gl X x) (hm : X.mg x = none) (ha : DA X (e :: es) ta wa) (hn : x ≠ "__name__" := by decide) (hdb : (x == ("__debug__" : Str)) = false := by decide)
    (he : starEach (e :: es) X.env = (false, eval e X.env) :: starEach es X.env := by rfl) (hpl : (backTo pos (starEach es X.env)).any (·.1) = false := by rfl) : DD X (.Call (.Name x p) (e :: es) [] pos) (tCB r ta) (wCall g wa) :=
  ⟨pe_callTy hc hg hm hv ha.pa hn hdb he hpl, sem_cbD hs ha.sem⟩
end
end W2

set_option Elab.async false
set_option linter.all false
set_option maxRecDepth 100000
/-! W2N: an item of anything; ints' operators by name; room. -/
namespace W2
open PySem PySem.Spec PyProof.Rows L2

section
variable {X : Cx} {a b : Expr} {ta tb : TE} {wa wb : WE} {pos : Pos}
def rIxDct : R2 := fun x y H Q => ∃ a v, x = .ref a ∧ DGetE H a y (some v) ∧ Q v H
theorem ix_dict (hu : X.A.units + 1 < cLine) : IxR X rIxDct := by
  intro value slice pins s σ H x y v u Q I rx ry h hs
  obtain ⟨a, z, rfl, g, q⟩ := h
  obtain rfl : v = Value.ref a := rx
  exact PyProof.Rows.tail_any (dict_typeIsE I g) PySem.F.slot_dict_getitem.lookup (d_getItemE hu I g ry fun w' s3 I3 rw' => ⟨z, H, I3, rw', q⟩) hs
def gIxA : D → D → (D → Prop) → Prop
  | .dict es, k, Q => gIxD (.dict es) k Q
  | d, k, Q => gIx d k Q
theorem de_ixA (hu : X.A.units + 1 < cLine) (hs : PlainIx b) (ha : DO X a ta wa) (hb : DE X b tb wb) : DE X (.Subscript a b pos) (tOp (fun x y H Q => rIx X.K x y H Q ∨ rIxDct x y H Q) ta tb) (w2 gIxA wa wb) :=
  ⟨pe_ix (IxR.or ix_seq (ix_dict hu)) ha.pe hb.pe hs, fun {sx H0 F0 F σ H η Q R} r hw k => ha.sem r hw fun d x F1 H1 q1 e1 o1 => hb.sem (r.ext e1) q1 fun kd y F2 H2 q2 e2 hy => by
    have r2 := (r.ext e1).ext e2
    have nx := (o1.mono e2.sF).nw r2
    have kk := k.ext (e1.trans e2)
    cases d <;> first | exact .inl (rs_ix r2.base nx (.inl hy) q2 kk) | skip
    obtain ⟨g1, g2, z, g3, q⟩ := q2
    obtain ⟨a, ov, rfl, _, g, rel⟩ := Nw.dgetE r2.base nx hy g1 g2
    rw [g3] at rel
    obtain ⟨v, rfl, hv⟩ := rel.some
    exact .inr ⟨a, v, rfl, g, kk.now r2.base q hv⟩⟩
end
/-! ### ints -/
abbrev gSubI := gI fun i j => .int (i - j)
abbrev gMulI := gIC CMulW fun i j => .int (i * j)
abbrev gFdivI := gIC CDiv fun i j => .int (i / j)
abbrev gModI := gIC (fun _ j => 0 < j) fun i j => .int (i % j)
abbrev gPowI := gIC CPow fun i j => .int (i ^ j.toNat)
abbrev gShlI := gIC CPow fun i j => .int (i * 2 ^ j.toNat)
abbrev gLtI := gI fun i j => .bool (decide (i < j))
abbrev gLeI := gI fun i j => .bool (decide (i ≤ j))
abbrev gGtI := gI fun i j => .bool (decide (j < i))
abbrev gGeI := gI fun i j => .bool (decide (j ≤ i))
section
variable {K : PySem.W.Frag}
theorem rs_subI : RSem K (rI0 fun i j => .int (i - j)) gSubI := rs_I fun _ _ _ => .int _
theorem rs_mulI : RSem K (rI CMulW fun i j => .int (i * j)) gMulI := rs_IC fun _ _ _ => .int _
theorem rs_fdivI : RSem K (rI CDiv fun i j => .int (i / j)) gFdivI := rs_IC fun _ _ _ => .int _
theorem rs_modI : RSem K (rI (fun _ j => 0 < j) fun i j => .int (i % j)) gModI := rs_IC fun _ _ _ => .int _
theorem rs_powI : RSem K (rI CPow fun i j => .int (i ^ j.toNat)) gPowI := rs_IC fun _ _ _ => .int _
theorem rs_shlI : RSem K (rI CPow fun i j => .int (i * 2 ^ j.toNat)) gShlI := rs_IC fun _ _ _ => .int _
theorem rs_ltI : RSem K (rI0 fun i j => .bl (decide (i < j))) gLtI := rs_I fun _ _ _ => .bl _
theorem rs_leI : RSem K (rI0 fun i j => .bl (decide (i ≤ j))) gLeI := rs_I fun _ _ _ => .bl _
theorem rs_gtI : RSem K (rI0 fun i j => .bl (decide (j < i))) gGtI := rs_I fun _ _ _ => .bl _
theorem rs_geI : RSem K (rI0 fun i j => .bl (decide (j ≤ i))) gGeI := rs_I fun _ _ _ => .bl _
end
/-! ### methods of a slot's own list -/
section
variable {X : Cx} {e o : Expr} {ta : TA} {wa : WA} {apos cpos pos : Pos}
theorem ds_append (i : Nat) (ha : DB X [e] ta wa) (hn : PE X o (tVar i)) (hbase : attributeBase o "append" X.env (eval o X.env) = eval o X.env := by rfl)
    (hfew : ((backTo cpos (starEach [e] X.env)).all (fun x => !x.1) && (backToKw cpos (keywordEach [] X.env)).all (fun x => x.1.isSome)
      && decide (([e] : List Expr).length + ([] : List Keyword).length + (if ([] : List Keyword).isEmpty then 0 else 1) < 30)) = true := by rfl)
    (hline : (apos.endLine == cpos.line) = true := by rfl) (hs : starEach [e] X.env = (false, eval e X.env) :: starEach [] X.env := by rfl) (hplain : (backTo cpos (starEach [] X.env)).any (·.1) = false := by rfl)
    (hsw : swapsWith (.Call (.Attribute o "append" apos) [e] [] cpos) none pos.line X.env = pure false := by rfl) :
    DS X (.Expr (.Call (.Attribute o "append" apos) [e] [] cpos) pos) (tAsg (tBM X.K "list" rAppend (tVar i) ta) tgDrop) (wMutE i gAppend wa fun _ η Q => Q η) :=
  ds_mut i ms_append ha (pe_bm PySem.F.plainAttrs_list PySem.F.slot_list_append PySem.F.type_list_append mt_append hn ha.pa hbase hfew hline hs hplain) hsw
theorem ds_extend (i : Nat) (ha : DB X [e] ta wa) (hn : PE X o (tVar i)) (hbase : attributeBase o "extend" X.env (eval o X.env) = eval o X.env := by rfl)
    (hfew : ((backTo cpos (starEach [e] X.env)).all (fun x => !x.1) && (backToKw cpos (keywordEach [] X.env)).all (fun x => x.1.isSome)
      && decide (([e] : List Expr).length + ([] : List Keyword).length + (if ([] : List Keyword).isEmpty then 0 else 1) < 30)) = true := by rfl)
    (hline : (apos.endLine == cpos.line) = true := by rfl) (hs : starEach [e] X.env = (false, eval e X.env) :: starEach [] X.env := by rfl) (hplain : (backTo cpos (starEach [] X.env)).any (·.1) = false := by rfl)
    (hsw : swapsWith (.Call (.Attribute o "extend" apos) [e] [] cpos) none pos.line X.env = pure false := by rfl) :
    DS X (.Expr (.Call (.Attribute o "extend" apos) [e] [] cpos) pos) (tAsg (tBM X.K "list" rExtend (tVar i) ta) tgDrop) (wMutE i gExtend wa fun _ η Q => Q η) :=
  ds_mut i ms_extend ha (pe_bm PySem.F.plainAttrs_list PySem.F.slot_list_extend PySem.F.type_list_extend mt_extend hn ha.pa hbase hfew hline hs hplain) hsw
end
theorem dl_lcV {X : Cx} {elt tg iter : Expr} {ifs : List Expr} {scope : Scope} {vs : List Nat} {pos : Pos} {wi : TI} {wI : WI} {g : TG} {wg : WG} {L : List Nat} {tt : TT} {wt : WT} {te : TE} {we : WE} (hc : X.calm = true) (hN : X.N.Nodup) (hi : DI X tg iter wi wI) (own : List (Str × Nat)) (ok : BlkOk X.N X.env.scope scope own)
    (hg : ∀ (s : Shared) (H : Hp) (C : Addr) (cl : List (Str × Addr)) (fp : List Addr), DG (compX X scope s H C cl fp) tg g wg L) (ht : ∀ (s : Shared) (H : Hp) (C : Addr) (cl : List (Str × Addr)) (fp : List Addr), DTT (compX X scope s H C cl fp) ifs tt wt)
    (he : ∀ (s : Shared) (H : Hp) (C : Addr) (cl : List (Str × Addr)) (fp : List Addr), DE (compX X scope s H C cl fp) elt te we) (hL : ∀ i ∈ L, i ∈ own.map (·.2)) (hv : own.map (·.2) = vs := by rfl) (hs : ∀ x, foldedSetIterable iter X.env x = pure x := by intro _; rfl) :
    DL X (.ListComp elt [⟨tg, iter, ifs, 0⟩] scope pos) (tLc wi g tt te vs) (wLc wI wg wt we vs) := by
  subst hv
  exact dl_lc hc hN hi ok hg ht he hL hs
/-- name = [.. for ..] on one line, the list frozen at once -/
theorem ds_lcF (i : Nat) {X : Cx} {y : Str} {py : Pos} {elt tg iter : Expr} {ifs : List Expr} {scope : Scope} {vs : List Nat} {pos spos : Pos} {wi : TI} {wI : WI} {g : TG} {wg : WG} {L : List Nat} {tt : TT} {wt : WT} {te : TE} {we : WE} (hc : X.calm = true) (hN : X.N.Nodup) (hi : DI X tg iter wi wI) (own : List (Str × Nat)) (ok : BlkOk X.N X.env.scope scope own)
    (hg : ∀ (s : Shared) (H : Hp) (C : Addr) (cl : List (Str × Addr)) (fp : List Addr), DG (compX X scope s H C cl fp) tg g wg L) (ht : ∀ (s : Shared) (H : Hp) (C : Addr) (cl : List (Str × Addr)) (fp : List Addr), DTT (compX X scope s H C cl fp) ifs tt wt)
    (he : ∀ (s : Shared) (H : Hp) (C : Addr) (cl : List (Str × Addr)) (fp : List Addr), DE (compX X scope s H C cl fp) elt te we) (hL : ∀ i ∈ L, i ∈ own.map (·.2)) (hv : own.map (·.2) = vs := by rfl) (hy : X.N[i]? = some y := by rfl) (hyl : X.env.scope.names.lookup y = some .local := by rfl)
    (hsw : swapsWith (.ListComp elt [⟨tg, iter, ifs, 0⟩] scope pos) (some (.Name y py)) spos.line X.env = pure true := by rfl) (hs : ∀ x, foldedSetIterable iter X.env x = pure x := by intro _; rfl) :
    DS X (.Assign [.Name y py] (.ListComp elt [⟨tg, iter, ifs, 0⟩] scope pos) spos) (tAsg (tLc wi g tt te vs) (gName i)) (wAsg (wLc wI wg wt we vs) (wGn i)) := by
  subst hv
  exact ⟨ps_setLc hc hN hy hyl hsw hi.pi ok (fun s H C cl fp => (hg s H C cl fp).pg) (fun s H C cl fp => (ht s H C cl fp).pts) (fun s H C cl fp => (he s H C cl fp).pe) hs,
    sem_asg (SemL.fr (sem_lc hi.sem (hg {} (fun _ => none) 0 [] []).sem (ht {} (fun _ => none) 0 [] []).sem (he {} (fun _ => none) 0 [] []).sem hL)) sem_gname⟩
/-- .. and its own -/
theorem ds_lcL (i : Nat) {X : Cx} {y : Str} {py : Pos} {elt tg iter : Expr} {ifs : List Expr} {scope : Scope} {vs : List Nat} {pos spos : Pos} {wi : TI} {wI : WI} {g : TG} {wg : WG} {L : List Nat} {tt : TT} {wt : WT} {te : TE} {we : WE} (hc : X.calm = true) (hN : X.N.Nodup) (hi : DI X tg iter wi wI) (own : List (Str × Nat)) (ok : BlkOk X.N X.env.scope scope own)
    (hg : ∀ (s : Shared) (H : Hp) (C : Addr) (cl : List (Str × Addr)) (fp : List Addr), DG (compX X scope s H C cl fp) tg g wg L) (ht : ∀ (s : Shared) (H : Hp) (C : Addr) (cl : List (Str × Addr)) (fp : List Addr), DTT (compX X scope s H C cl fp) ifs tt wt)
    (he : ∀ (s : Shared) (H : Hp) (C : Addr) (cl : List (Str × Addr)) (fp : List Addr), DE (compX X scope s H C cl fp) elt te we) (hL : ∀ i ∈ L, i ∈ own.map (·.2)) (hv : own.map (·.2) = vs := by rfl) (hy : X.N[i]? = some y := by rfl) (hyl : X.env.scope.names.lookup y = some .local := by rfl)
    (hsw : swapsWith (.ListComp elt [⟨tg, iter, ifs, 0⟩] scope pos) (some (.Name y py)) spos.line X.env = pure true := by rfl) (hs : ∀ x, foldedSetIterable iter X.env x = pure x := by intro _; rfl) :
    DS X (.Assign [.Name y py] (.ListComp elt [⟨tg, iter, ifs, 0⟩] scope pos) spos) (tAsg (tLc wi g tt te vs) (gName i)) (wAsgL (wLc wI wg wt we vs) i) := by
  subst hv
  exact ⟨ps_setLc hc hN hy hyl hsw hi.pi ok (fun s H C cl fp => (hg s H C cl fp).pg) (fun s H C cl fp => (ht s H C cl fp).pts) (fun s H C cl fp => (he s H C cl fp).pe) hs,
    sem_asgL (sem_lc hi.sem (hg {} (fun _ => none) 0 [] []).sem (ht {} (fun _ => none) 0 [] []).sem (he {} (fun _ => none) 0 [] []).sem hL)⟩
theorem bt_sorted : bootBuiltins "sorted" = some (.builtin "sorted") := by decide +kernel
theorem bt_repr : bootBuiltins "repr" = some (.builtin "repr") := by decide +kernel
theorem bt_abs : bootBuiltins "abs" = some (.builtin "abs") := by decide +kernel
theorem bt_max : bootBuiltins "max" = some (.builtin "max") := by decide +kernel
theorem bt_min : bootBuiltins "min" = some (.builtin "min") := by decide +kernel
theorem bt_sum : bootBuiltins "sum" = some (.builtin "sum") := by decide +kernel
theorem bt_all : bootBuiltins "all" = some (.builtin "all") := by decide +kernel
theorem bt_any : bootBuiltins "any" = some (.builtin "any") := by decide +kernel
/-! ### room -/
section
variable {A : Around} {k : Nat}
theorem un1 (h : Room k A) : A.units + 1 < cLine := by have := h.un; omega
theorem un64 (h : Room k A) : A.units + 64 < cLine := by have := h.un; omega
theorem un65 (h : Room k A) : A.units + 65 < cLine := by have := h.un; omega
theorem un70 (h : Room k A) : A.units + 70 < cLine := by have := h.un; omega
end
end W2

set_option Elab.async false
set_option linter.all false
set_option maxRecDepth 100000
/-! W2L: from the law's promise to the statement. -/
namespace W2
open PySem PySem.Spec PyProof.Rows L2

/-- what a law promises: True, whatever the script -/
def spLawG (K : PySem.W.Frag) : Sp := fun vs H Q _ => ∃ (a : Addr) (ns : List Int), vs = [.ref a] ∧ SqL K H a (ns.map V.int) ∧ ns.length ≤ 63 ∧ ∀ H', Q (.bl true) H'
def lawE (N : List Str) : En := (List.replicate N.length Slot.un).set 1 .src
theorem rep_law {K : PySem.W.Frag} {H : Hp} {N : List Str} {a b c : Addr} (hN : 2 ≤ N.length) (h : SrcAt H a b) : Rep K (some (a, b)) H (fun _ => none) (fun _ => none) ((L2.start N [.ref c]).set 1 (some (.ref a))) H (lawE N) where
  base := ⟨fun _ _ q => (nomatch q), h, fun _ _ => rfl⟩
  s0 := fun _ _ q _ => q
  f0 := Same.refl _
  fr := fun _ _ q => nomatch q
  len := by
    unfold lawE L2.start
    simp only [List.length_set, List.length_replicate, List.length_append, List.length_map, List.length_singleton]
    omega
  sl := fun i s v h1 h2 => by
    unfold lawE at h1
    by_cases e : i = 1
    · subst e
      rw [List.getElem?_set_self (by rw [List.length_replicate]; omega)] at h1
      cases h1
      rw [List.getElem?_set_self (by unfold L2.start; simp only [List.length_append, List.length_map, List.length_singleton, List.length_replicate]; omega)] at h2
      cases h2
      exact ⟨a, b, rfl, rfl⟩
    · rw [List.getElem?_set_ne (Ne.symm e), List.getElem?_replicate] at h1
      split at h1
      · cases h1; trivial
      · cases h1
  sep := fun i j d e a h1 _ _ _ => by
    exfalso
    unfold lawE at h1
    by_cases e : i = 1
    · subst e
      by_cases hl : 1 < N.length
      · rw [List.getElem?_set_self (by rw [List.length_replicate]; omega)] at h1
        cases h1
      · omega
    · rw [List.getElem?_set_ne (Ne.symm e), List.getElem?_replicate] at h1
      split at h1
      · cases h1
      · cases h1
/-- THE LAW'S DEF keeps its promise -/
theorem fn_law {P : Program} {w : World} {K : PySem.W.Frag} {mg : Str → Option Value} {base : Heap} {k : Nat} {f : Addr} {x qual : Str} {st : Stmt} {fd : FuncData} {N : List Str} {p0 : Str} {wb : WS} (F : Fun K x qual st f fd) (S : FnScope N [p0] (defScope st)) (hN : 2 ≤ N.length)
    (hbody : ∀ (cdv : Value) (A : Around) (outer : List Env) (s : Shared) (H : Hp), Room k (A.deeper (envOfC qual (defScope st) s.heap.objs.size f cdv)) → (A.deeper (envOfC qual (defScope st) s.heap.objs.size f cdv)).guards = some [] →
      ∃ st0 rest t, defBody st = st0 :: rest ∧ PS (cxOf CX0 P w K mg base N qual (defScope st) f cdv A outer s H E0).nox st0 (tAsg (tCall (spSource K) [] E0 (tCons (tVar 0) tNil)) (gName 1)) ∧ DSs (cxOf CX0 P w K mg base N qual (defScope st) f cdv A outer s H E0).nox rest t wb)
    (hw : wb { nx := fun _ => False, rt := fun d => d = .bool true } (lawE N)) : FnG P w K mg base (k + 1) f fd [p0] (spLawG K) := by
  refine fnG_of F S (fun vs H Q E h => ?_) fun cdv A outer s H vs Q hr hG h => ?_
  · obtain ⟨a, ns, rfl, _⟩ := h
    rfl
  · obtain ⟨a, ns, rfl, hS, hl, q⟩ := h
    obtain ⟨st0, rest, t, eb, h0, ht⟩ := hbody cdv A outer s H hr hG
    have hs : SemS K t wb := ht.sem
    refine ⟨_, by rw [eb]; exact pss_cons h0 ht.pss, ?_⟩
    have hl1 : 1 ≤ N.length := by omega
    refine ⟨.ref a, ?_, a, ns, rfl, hS, Nat.lt_of_le_of_lt hl (by decide), fun a' b' H' sm sr => ?_⟩
    · unfold L2.start
      rfl
    · refine hs (rep_law (c := a) hN sr) hw ⟨fun _ _ _ _ z => z.elim, fun _ _ _ _ z => z.elim, fun _ _ _ _ z => z.elim, fun d v F' H'' z e hd => ?_⟩
      cases z
      cases hd
      exact q H''

def onlyH (a : Addr) (o : HO) : Hp := fun b => if b = a then some o else none
theorem lawG_core {P : Program} {w : World} {K : PySem.W.Frag} {mg mb : Str → Option Value} {k : Nat} {fa a : Addr} {fd : FuncData} {x : Str} {s : Shared} {vs : List Value} {ns : List Int} (H : Hp)
    (KX : K.In s.heap) (hns : s.heap.Ns mainGlobals mg) (hb : s.heap.Ns builtinsNs mb) (hbb : ∀ x : Str, x ≠ "__name__" → mb x = bootBuiltins x) (hlim : s.heap.NoLimit) (hg : s.gens = #[])
    (ha : s.heap.get? a = some { cls := .type "list", data := .seq vs.toArray }) (hl : ns.length ≤ 63) (hr : Room k callerA)
    (F : ∀ base : Heap, K.In base → base.Ns mainGlobals mg → FnG P w K mg base k fa fd [x] (spLawG K)) (hbind : ∀ (s : Shared) (u : Value), BindsTo s fd ⟨[u], []⟩ [(x, u)])
    (hS : SqL K H a (ns.map V.int)) (hok : HOk P w H s.heap) (hA : ∀ b, H b ≠ none → b = a ∧ K.lookup a = none ∧ ∃ o xs, H b = some (.frz o (.lst xs))) :
    codeAny (model P w) callerA (.call (.ref fa) ⟨[.ref a], []⟩) (fun r s' => r = .ok (.ret (.bool true)) ∧ OldK s.heap s'.heap ∧ s'.os = s.os ∧ AllBare s'.gens) s := by
  have off : ∀ {b : Addr}, b ≠ a → H b = none := fun {b} hb => Classical.byContradiction fun z => hb (hA b z).1
  have seen : ∀ {b : Addr} {o : Obj}, b ≠ a → s.heap.get? b = some o → (hidT s.heap H).get? b = some o := fun hb e => hidT_get e (off hb)
  have notA : ∀ {b : Addr} {o : Obj} {es : Array DictEntry} {ep : Nat}, s.heap.get? b = some o → o.data = .dict es ep → b ≠ a := fun {b o es ep} e d hb => by
    rw [hb, ha] at e
    cases e
    cases (show Data.seq vs.toArray _ = Data.dict es ep from d)
  have names : ∀ {b : Addr} {m : Str → Option Value}, s.heap.Ns b m → (hidT s.heap H).Ns b m := fun ⟨o, es, ep, e, d, r⟩ => ⟨o, es, ep, seen (notA e d) e, d, r⟩
  have kin : K.In (hidT s.heap H) := fun b o e => by
    cases q : H b with
    | none => exact hidT_get (KX b o e) q
    | some u =>
      obtain ⟨rfl, kn, _⟩ := hA b (by rw [q]; exact Option.some_ne_none u)
      rw [kn] at e
      cases e
  have hM : Mod K mg (hidT s.heap H) := ⟨kin, names hns, ⟨mb, names hb, hbb⟩, hlim.elim fun mc h => ⟨mc, names h.1, h.2⟩⟩
  have e0 : Env0 P w K mg (hidT s.heap H) callerA [] s H := by
    refine ⟨rfl, hM, fun b o e => of_hidT e, Nat.le_of_eq (hidT_size _ _), trivial, fun b hb => ?_, hok, .of_eq hg⟩
    cases (show b ∈ ([] : List Addr) from hb)
  refine codeAny_mono ((F _ kin (names hns)).run callerA [] s H ⟨[.ref a], []⟩ [.ref a] [.ref a] (fun v _ => v = .bl true) hr rfl e0 (hbind s (.ref a)) (.cons rfl .nil) ⟨a, ns, rfl, hS, hl, fun _ => rfl⟩) fun r s' h => ?_
  match r, h with
  | .ok (.ret u), h =>
    obtain ⟨v, H', os, bare, un, hok', r', q⟩ := h
    cases q
    cases (show u = Value.bool true from r')
    refine ⟨rfl, OldK.of_keep fun b o e => ?_, os, bare⟩
    cases q : H b with
    | none => exact un.keep b o e q (fun z => by cases (show b ∈ ([] : List Addr) from z)) (fun z => by cases z)
    | some u =>
      obtain ⟨_, _, ob, xs, z⟩ := hA b (by rw [q]; exact Option.some_ne_none u)
      have g1 := (hok b _ z).1
      have g2 := (hok' b _ (un.frzs b ob _ z)).1
      rw [← Option.some.inj (g1.symm.trans e)]
      exact g2
  | .ok .next, h => exact False.elim h
  | .ok .brk, h => exact False.elim h
  | .ok .cont, h => exact False.elim h
  | .error e, h => exact False.elim h
theorem lawG_call {P : Program} {w : World} {K : PySem.W.Frag} {mg mb : Str → Option Value} {k : Nat} {fa a : Addr} {fd : FuncData} {x : Str} {s : Shared} {vs : List Value} {ns : List Int}
    (KX : K.In s.heap) (hns : s.heap.Ns mainGlobals mg) (hb : s.heap.Ns builtinsNs mb) (hbb : ∀ x : Str, x ≠ "__name__" → mb x = bootBuiltins x) (hlim : s.heap.NoLimit) (hg : s.gens = #[])
    (ha : s.heap.get? a = some { cls := .type "list", data := .seq vs.toArray }) (hi : IntsAre vs ns) (hl : ns.length ≤ 63) (hr : Room k callerA)
    (F : ∀ base : Heap, K.In base → base.Ns mainGlobals mg → FnG P w K mg base k fa fd [x] (spLawG K)) (hbind : ∀ (s : Shared) (u : Value), BindsTo s fd ⟨[u], []⟩ [(x, u)]) :
    codeAny (model P w) callerA (.call (.ref fa) ⟨[.ref a], []⟩) (fun r s' => r = .ok (.ret (.bool true)) ∧ OldK s.heap s'.heap ∧ s'.os = s.os ∧ AllBare s'.gens) s := by
  have rv := vals_ints hi
  have l63 : (63 : Nat) ≤ sizeLine := by decide
  have hlv := hi.length
  cases hk : K.lookup a with
  | some o =>
    have e := KX a o hk
    rw [ha] at e
    cases e
    refine lawG_core (ns := ns) (fun _ => none) KX hns hb hbb hlim hg ha hl hr F hbind (.inr ⟨_, vs.toArray, _, hk, rfl, rfl, rfl, ?_, by simpa using rv⟩) (fun b u z => by cases z) (fun b z => absurd rfl z)
    rw [List.size_toArray, hlv]
    exact Nat.le_trans hl l63
  | none =>
    refine lawG_core (ns := ns) (onlyH a (.frz { cls := .type "list", data := .seq vs.toArray } (.lst (ns.map V.int)))) KX hns hb hbb hlim hg ha hl hr F hbind (.inl (.inr ⟨_, if_pos rfl⟩)) (fun b u z => ?_) (fun b z => ?_)
    · by_cases e : b = a
      · subst e
        cases (if_pos rfl).symm.trans z
        exact ⟨ha, Nat.le_trans (Nat.le_of_eq (List.length_map ..)) (Nat.le_trans hl l63), vs, _, rv, ha⟩
      · cases (if_neg e).symm.trans z
    · by_cases e : b = a
      · exact ⟨e, hk, _, _, if_pos e⟩
      · exact absurd (if_neg e) z
/-- the law's walk, from the promise of its def -/
theorem walk_ofG {l : PySem.W.OpenLaw} {k : Nat} {q : Program} {loose : List Str} {XP : (Str → Option Value) → Heap → Prop} {YP : World → Heap → Prop} {d : DefRec} {K : Params → PySem.W.Frag} {x : Str}
    (hn : l.most = some 63) (hdf : d.params.defaults = []) (hr : Room k callerA) (hY : ∀ (w : World) (h : Heap), YP w h → (K w.params).In h)
    (F : ∀ (w : World) (mg : Str → Option Value) (fa : Addr) (h : Heap), (K w.params).In h → h.Ns mainGlobals mg → mg d.name = some (.ref fa) →
      ∃ fd : FuncData, (∀ (s : Shared) (u : Value), BindsTo s fd ⟨[u], []⟩ [(x, u)]) ∧ ∀ base : Heap, (K w.params).In base → base.Ns mainGlobals mg → FnG l.prog w (K w.params) mg base k fa fd [x] (spLawG (K w.params))) :
    PySem.W.WalkO q loose XP YP l.row.toRowW d [] (fun f vs => PySem.call f vs) := by
  refine Att.attach_call hn hdf fun w s₀ s mg mb fa o pm cd doc a vs ns G Y _ _ _ hmg hobj hints hlen hg => ?_
  obtain ⟨fd, hb, hF⟩ := F w mg fa _ (hY w _ Y) G.T.g hmg
  exact lawG_call (hY w _ Y) G.T.g G.T.b G.T.builtins G.T.nolimit hg hobj hints hlen hr hF hb
end W2

set_option Elab.async false
set_option linter.all false
set_option maxRecDepth 100000
/-! W2K: what the top has written, def by def. -/
namespace W2
open PySem PySem.Spec PyProof.Rows L2

/-- a def as it lies in the written part -/
structure FnF (K : PySem.W.Frag) (mg : Str → Option Value) (x : Str) (st : Stmt) (ps : List Str) where
  a : Addr
  d : FuncData
  F : Fun K x x st a d
  m : mg x = some (.ref a)
  b : Binds K d ps []
  bt : ∀ (s : Shared) (us : List Value), us.length = ps.length → BindsTo s d ⟨us, []⟩ (ps.zip us)
def fnF_mk {K : PySem.W.Frag} {h : Heap} {mg : Str → Option Value} (X : K.In h) (G : h.Ns mainGlobals mg) {x : Str} {st : Stmt} {ps : List Str} {f : Addr} {oc kV dc pm cd ct : Value} {od an : Option Addr} {osl : Array (Option Value)}
    (hb : ∀ (kV doc pm : Value) (an : Option Addr) (cdv ct : Value) (us : List Value), us.length = ps.length → bindArgs (PySem.W.fnOf x x (defArgs st) (defBody st) (defScope st) .none kV doc pm an cdv ct) ⟨us, []⟩ = pure (ps.zip us))
    (a1 : PySem.W.nsIn K mainGlobals x = some (some (.ref f))) (l1 : K.lookup f = some ⟨oc, od, .func (PySem.W.fnOf x x (defArgs st) (defBody st) (defScope st) .none kV dc pm an cd ct), osl⟩) (c1 : PySem.W.codeIn K cd x = true) (k1 : PySem.W.keepIn K (.ref f) = true) : FnF K mg x st ps :=
  { a := f, d := _, F := fun_mk l1 c1 k1, m := PySem.W.mg_of X G a1, b := (fun_mk l1 c1 k1).binds hb, bt := fun s us hl => .of_eq (hb _ _ _ _ _ _ us hl) }
theorem fnF_one {x : Str} {st : Stmt} {p : Str} (h : ∀ (kV doc pm : Value) (an : Option Addr) (cdv ct : Value) (u : Value), bindArgs (PySem.W.fnOf x x (defArgs st) (defBody st) (defScope st) .none kV doc pm an cdv ct) ⟨[u], []⟩ = pure [(p, u)]) :
    ∀ (kV doc pm : Value) (an : Option Addr) (cdv ct : Value) (us : List Value), us.length = [p].length → bindArgs (PySem.W.fnOf x x (defArgs st) (defBody st) (defScope st) .none kV doc pm an cdv ct) ⟨us, []⟩ = pure ([p].zip us) :=
  fun kV doc pm an cdv ct us hl => match us, hl with | [u], _ => h kV doc pm an cdv ct u
/-- the four defs of the source -/
theorem len1 {K : PySem.W.Frag} {vs : List V} {H : Hp} {Q : VK} {E : XK} (h : spSource K vs H Q E) : vs.length = 1 := by
  obtain ⟨a, ns, rfl, _⟩ := h
  rfl
theorem lenS {K : PySem.W.Frag} {n : Nat} {wf : WF} {vs : List V} {H : Hp} {Q : VK} {E : XK} (h : spS K n wf vs H Q E) : vs.length = n + 1 := by
  obtain ⟨a, b, vs', F, ds, P, rfl, _, hd, hl, _⟩ := h
  rw [List.length_cons, hd.length, hl]
section
variable {P : Program} {w : World} {K : PySem.W.Frag} {mg : Str → Option Value} {base : Heap} {k : Nat} {f : Addr} {x qual : Str} {st : Stmt} {fd : FuncData}
theorem fn_source (F : Fun K x qual st f fd) (S : FnScope ["script", "mixed", "cell"] ["script"] (defScope st))
    (hb : ∀ (cdv : Value) (A : Around) (outer : List Env) (s : Shared) (H : Hp), PSs (cxOf CX0 P w K mg base ["script", "mixed", "cell"] qual (defScope st) f cdv A outer s H E0).nox (defBody st) (tSource K)) : FnG P w K mg base (k + 1) f fd ["script"] (spSource K) :=
  fnG_of F S (fun vs H Q E h => len1 h) fun cdv A outer s H vs Q hr hG h => ⟨_, hb cdv A outer s H, sem_source h⟩
theorem fn_pick (F : Fun K x qual st f fd) (S : FnScope ["source", "many", "left", "mixed"] ["source", "many"] (defScope st))
    (hb : ∀ (cdv : Value) (A : Around) (outer : List Env) (s : Shared) (H : Hp), Room k (A.deeper (envOfC qual (defScope st) s.heap.objs.size f cdv)) → PSs (cxOf CX0 P w K mg base ["source", "many", "left", "mixed"] qual (defScope st) f cdv A outer s H E0).nox (defBody st) (tPick K)) : FnG P w K mg base (k + 1) f fd ["source", "many"] (spS K 1 wfPick) :=
  fnG_of F S (fun vs H Q E h => lenS h) fun cdv A outer s H vs Q hr hG h => ⟨_, hb cdv A outer s H hr, sem_pick h⟩
theorem fn_mixed (F : Fun K x qual st f fd) (S : FnScope ["source", "things", "rest", "lap"] ["source", "things"] (defScope st))
    (hb : ∀ (cdv : Value) (A : Around) (outer : List Env) (s : Shared) (H : Hp), Room k (A.deeper (envOfC qual (defScope st) s.heap.objs.size f cdv)) → (A.deeper (envOfC qual (defScope st) s.heap.objs.size f cdv)).guards = some [] → PSs (cxOf CX0 P w K mg base ["source", "things", "rest", "lap"] qual (defScope st) f cdv A outer s H E0).nox (defBody st) (tMixed K)) : FnG P w K mg base (k + 1) f fd ["source", "things"] (spS K 1 wfMixed) :=
  fnG_of F S (fun vs H Q E h => lenS h) fun cdv A outer s H vs Q hr hG h => ⟨_, hb cdv A outer s H hr hG, sem_mixed h⟩
end
/-- one of some: what its body does -/
theorem of_law {ds : List D} {Q : D → Prop} (hl : ds.length = 1) (h : wfOf ds Q) : wbOf { nx := fun _ => Q .none, rt := Q } (startE ["source", "some"] (.src :: ds.map .fz)) := by
  obtain ⟨d, rfl⟩ : ∃ d, ds = [d] := by
    match ds, hl with
    | [d], _ => exact ⟨d, rfl⟩
  have go : ∀ (xs : List D) (P : D → Prop), xs ≠ [] → xs.length < 1073741824 → (∀ x ∈ xs, P x) → (xs.length : Int) < 1073741824 ∧ ∀ r : Int, 0 ≤ r → r < max 1 (xs.length : Int) → ∃ x, L2.atI xs r = some x ∧ P x := fun xs P ne lt h => by
    refine ⟨by omega, fun r h0 h1 => ?_⟩
    have pos : 0 < xs.length := by cases xs with | nil => exact absurd rfl ne | cons _ _ => exact Nat.succ_pos _
    have hr : r.toNat < xs.length := by omega
    refine ⟨xs[r.toNat], ?_, h _ (List.getElem_mem _)⟩
    unfold L2.atI ixN
    rw [if_pos h0, if_pos (by omega)]
    exact List.getElem?_eq_getElem hr
  cases d <;> first | exact h.elim | skip
  · rename_i xs
    obtain ⟨g1, g2⟩ := go xs Q h.1 h.2.1 h.2.2
    exact ⟨rfl, g1, fun r h0 h1 => g2 r h0 h1⟩
  · rename_i xs
    obtain ⟨g1, g2⟩ := go xs Q h.1 h.2.1 h.2.2
    exact ⟨rfl, g1, fun r h0 h1 => g2 r h0 h1⟩
end W2

set_option Elab.async false
set_option linter.all false
set_option maxRecDepth 100000
/-! W2X: rules whose reading names the written part K: K is given apart. Printed by mkx.py. -/
namespace W2
open PySem PySem.Spec PyProof.Rows L2
def wFnOw (n : Nat) (wf : WF) (wa : WA) : WE := fun η Q => ownDicts η = true ∧ wFnB n wf wa η Q
section
variable {X : Cx} (K : PySem.W.Frag) (hK : X.K = K)
include hK

theorem op_addK  : OpR X (binaryOp .Add) (rAddA K) := by
  subst hK
  exact op_addA
theorem op_eqK (hu : X.A.units + 64 < cLine) : OpR X (compareOp .Eq) (rEqA K) := by
  subst hK
  exact op_eqA hu
theorem op_neK (hu : X.A.units + 64 < cLine) : OpR X (compareOp .NotEq) (rNeA K) := by
  subst hK
  exact op_neA hu
theorem op_inK (hu : X.A.units + 65 < cLine) : OpR X (compareOp .In) (rInA K) := by
  subst hK
  exact op_inA hu
theorem op_notInK (hu : X.A.units + 65 < cLine) : OpR X (compareOp .NotIn) (rNotInA K) := by
  subst hK
  exact op_notInA hu
theorem cr_lenK  : CallR X (.builtin "len") (rLenA K) := by
  subst hK
  exact cr_len
abbrev rTup1 (K : PySem.W.Frag) : List V → Hp → VK → Prop := fun xs H Q => ∃ p ys, xs = [.ref p] ∧ ((SqL K H p ys ∧ ∀ l, H l = none → Q (.ref l) (upd H l (.tup ys))) ∨ (SqT K H p ys ∧ Q (.ref p) H))
abbrev rLst1 (K : PySem.W.Frag) : List V → Hp → VK → Prop := fun xs H Q => ∃ p ys, xs = [.ref p] ∧ (SqL K H p ys ∨ SqT K H p ys) ∧ ∀ l, H l = none → Q (.ref l) (upd H l (.lst ys))
theorem cr_tupleK  : CallR X (.type "tuple") (rTup1 K) := by
  subst hK
  exact call_tuple_of
theorem cr_listK  : CallR X (.type "list") (rLst1 K) := by
  subst hK
  exact call_list_of
theorem cr_sortedK (hc : X.calm = true) (hu : X.A.units + 70 < cLine) : CallR X (.builtin "sorted") (rSortA K) := by
  subst hK
  exact cr_sortedA hc hu
theorem cr_reprK (hu : X.A.units + 70 < cLine) (hG : X.A.guards = some []) : CallR X (.builtin "repr") (rRepr K) := by
  subst hK
  exact cr_repr hu hG
theorem cr_sumK (hc : X.calm = true) : CallR X (.builtin "sum") (rSum K) := by
  subst hK
  exact cr_sum hc
theorem cr_maxK (hc : X.calm = true) : CallR X (.builtin "max") (rMax K) := by
  subst hK
  exact cr_max hc
theorem cr_minK (hc : X.calm = true) : CallR X (.builtin "min") (rMin K) := by
  subst hK
  exact cr_min hc
theorem cr_allK (hc : X.calm = true) : CallR X (.builtin "all") (rAll K) := by
  subst hK
  exact cr_all hc
theorem cr_anyK (hc : X.calm = true) : CallR X (.builtin "any") (rAny K) := by
  subst hK
  exact cr_any hc
theorem cr_dictK (hc : X.calm = true) : CallR X (.type "dict") (rDictA K) := by
  subst hK
  exact cr_dict hc
theorem dg_tupK {es : List Expr} {k : Nat} {t : TGs} {n : Nat} {pos : Pos} {ws : WGs} {L : List Nat} (hc : X.calm = true) (h : DGs X es t ws L) (hn : (assignEach es X.env).length = n := by rfl) (hst : (assignEach es X.env).findIdx? (·.1) = none := by rfl) : DG X (.Tuple es k pos) (fun v σ H Q => gTup K n t v σ H Q ∨ gUnl K n t v σ H Q) (wGt n ws) L := by
  subst hK
  exact dg_tup hc h hn hst
theorem di_itemsK {tg e : Expr} {te : TE} {we : WE} (he : DE X e te we) : DI X tg e (iAny K te) (wItems we) := by
  subst hK
  exact di_items he
theorem de_ixK {a b : Expr} {ta tb : TE} {wa wb : WE} {pos : Pos} (hu : X.A.units + 1 < cLine) (hs : PlainIx b) (ha : DO X a ta wa) (hb : DE X b tb wb) : DE X (.Subscript a b pos) (tOp (fun x y H Q => rIx K x y H Q ∨ rIxDct x y H Q) ta tb) (w2 gIxA wa wb) := by
  subst hK
  exact de_ixA hu hs ha hb
theorem de_sliceK {e : Expr} {lo hi : Option Expr} {te : TE} {we : WE} {tl th : TO} {wl wh : WO} {pos p2 : Pos} (he : DO X e te we) (hl : DPO X lo tl wl) (hh : DPO X hi th wh) : DE X (.Subscript e (.Slice lo hi none p2) pos) (tSl (rSlB K) te tl th) (wSl we wl wh) := by
  subst hK
  exact de_slice he hl hh
theorem dl_sliceK {e : Expr} {lo hi : Option Expr} {te : TE} {we : WE} {tl th : TO} {wl wh : WO} {pos p2 : Pos} (he : DO X e te we) (hl : DPO X lo tl wl) (hh : DPO X hi th wh) : DL X (.Subscript e (.Slice lo hi none p2) pos) (tSl (rSlL K) te tl th) (wSlL we wl wh) := by
  subst hK
  exact dl_slice he hl hh
theorem de_revTK {e : Expr} {te : TE} {we : WE} {k : Nat} {p1 p2 p3 pos : Pos} (he : DE X e te we) : DE X (.Subscript e (.Slice none none (some (.UnaryOp .USub (.Constant (.int 1) k p1) p2)) p3) pos) (tRevT K te) (wRevT we) := by
  subst hK
  exact de_revT he
theorem dl_revK {e : Expr} {te : TE} {we : WE} {k : Nat} {p1 p2 p3 pos : Pos} (he : DO X e te we) : DL X (.Subscript e (.Slice none none (some (.UnaryOp .USub (.Constant (.int 1) k p1) p2)) p3) pos) (tRevL K te) (wRevL we) := by
  subst hK
  exact dl_rev (p4 := ⟨0, 0, 0, 0⟩) he
theorem di_enumK {e : Expr} {te : TE} {we : WE} {elts : List Expr} {kk : Nat} {tpos p pos : Pos} (hg : Gl X "enumerate") (hm : X.mg "enumerate" = none) (he : DE X e te we) (hs : starEach [e] X.env = [(false, eval e X.env)] := by rfl) : DI X (.Tuple elts kk tpos) (.Call (.Name "enumerate" p) [e] [] pos) (iEnumA K (tCons te tNil)) (wEnum we) := by
  subst hK
  exact di_enum hg hm he hs
theorem de_fnK {k n : Nat} {f : Addr} {fd : FuncData} {ps : List Str} {wf : WF} {x : Str} {p pos : Pos} {e : Expr} {es : List Expr} {ta : TA} {wa : WA} (G : FnG X.prog X.w K X.mg X.base k f fd ps (spW K n wf)) (hr : Room k X.A) (hG : X.A.guards = some []) (hm : X.mg x = some (.ref f)) (hk : PySem.W.keepIn K (.ref f) = true) (hb : Binds K fd ps []) (hg : Gl X x) (ha : DB X (e :: es) ta wa) (hdb : (x == ("__debug__" : Str)) = false := by decide) (he : starEach (e :: es) X.env = (false, eval e X.env) :: starEach es X.env := by rfl) (hpl : (backTo pos (starEach es X.env)).any (·.1) = false := by rfl) : DE X (.Call (.Name x p) (e :: es) [] pos) (tCall (spW K n wf) [] E0 ta) (wFn n wf wa) := by
  subst hK
  exact de_fn G hr hG hm hk hb hg ha hdb he hpl
theorem de_fnSK (i : Nat) {k n : Nat} {f : Addr} {fd : FuncData} {ps : List Str} {wf : WF} {x : Str} {p pos : Pos} {e : Expr} {es : List Expr} {ta : TA} {wa : WA} (G : FnG X.prog X.w K X.mg X.base k f fd ps (spS K n wf)) (hr : Room k X.A) (hG : X.A.guards = some []) (hm : X.mg x = some (.ref f)) (hk : PySem.W.keepIn K (.ref f) = true) (hb : Binds K fd ps []) (hg : Gl X x) (hn : PE X e (tVar i)) (ha : DB X es ta wa) (hdb : (x == ("__debug__" : Str)) = false := by decide) (he : starEach (e :: es) X.env = (false, eval e X.env) :: starEach es X.env := by rfl) (hpl : (backTo pos (starEach es X.env)).any (·.1) = false := by rfl) : DE X (.Call (.Name x p) (e :: es) [] pos) (tCall (spS K n wf) [] E0 (tCons (tVar i) ta)) (wFnS i n wf wa) := by
  subst hK
  exact de_fnS i G hr hG hm hk hb hg hn ha hdb he hpl
theorem dt_truthK {a : Expr} {ta : TE} {wa : WE} (ha : DO X a ta wa) (he : ∀ whole, isTrue a X.env whole = (do let v ← whole; standAt a.pos; holding [v] (truthy v)) := by intro _; rfl) : DTs X a (fun σ H Q => ta σ H fun x H' => ∃ k, TruV K x H' k ∧ Q k H') (wTr wa) := by
  subst hK
  exact dt_truth ha he
theorem de_fnBK {k n : Nat} {f : Addr} {fd : FuncData} {ps : List Str} {wf : WF} {x : Str} {p pos : Pos} {e : Expr} {es : List Expr} {ta : TA} {wa : WA} (G : FnG X.prog X.w K X.mg X.base k f fd ps (spW K n wf)) (hr : Room k X.A) (hG : X.A.guards = some []) (hm : X.mg x = some (.ref f)) (hk : PySem.W.keepIn K (.ref f) = true) (hb : Binds K fd ps []) (hg : Gl X x) (ha : DA X (e :: es) ta wa) (hdb : (x == ("__debug__" : Str)) = false := by decide) (he : starEach (e :: es) X.env = (false, eval e X.env) :: starEach es X.env := by rfl) (hpl : (backTo pos (starEach es X.env)).any (·.1) = false := by rfl) : DE X (.Call (.Name x p) (e :: es) [] pos) (tCall (spW K n wf) [] E0 ta) (wFnOw n wf wa) := by
  subst hK
  exact de_fnB G hr hG hm hk hb hg ha hdb he hpl
end
end W2

set_option Elab.async false
set_option linter.all false
set_option maxRecDepth 100000
/-! W2J: isinstance(x, T), T a built-in type by its name; is, is not. -/
namespace W2
open PySem PySem.Spec PyProof.Rows L2

def tyN : D → String
  | .none => "NoneType"
  | .bool _ => "bool"
  | .int _ => "int"
  | .str _ => "str"
  | .list _ => "list"
  | .tuple _ => "tuple"
  | .dict _ => "dict"
def isiT (d : D) (T : String) : Bool := match d with
  | .bool _ => T == "bool" || T == "int"
  | d => T == tyN d
theorem kit_tuple (K : PySem.W.Frag) (d : D) : PySem.W.kitOne K (.type (tyN d)) (.type "tuple") = some (isiT d "tuple") := by cases d <;> kernel_rfl
theorem kit_int (K : PySem.W.Frag) (d : D) : PySem.W.kitOne K (.type (tyN d)) (.type "int") = some (isiT d "int") := by cases d <;> kernel_rfl
theorem kit_bool (K : PySem.W.Frag) (d : D) : PySem.W.kitOne K (.type (tyN d)) (.type "bool") = some (isiT d "bool") := by cases d <;> kernel_rfl
theorem kit_str (K : PySem.W.Frag) (d : D) : PySem.W.kitOne K (.type (tyN d)) (.type "str") = some (isiT d "str") := by cases d <;> kernel_rfl
theorem kit_list (K : PySem.W.Frag) (d : D) : PySem.W.kitOne K (.type (tyN d)) (.type "list") = some (isiT d "list") := by cases d <;> kernel_rfl
theorem kit_dict (K : PySem.W.Frag) (d : D) : PySem.W.kitOne K (.type (tyN d)) (.type "dict") = some (isiT d "dict") := by cases d <;> kernel_rfl
/-- a value's type, a locked dict of tuple keys too -/
def TyZ (K : PySem.W.Frag) (H : Hp) (x : V) (t : Value) : Prop := TyX K H x t ∨ ∃ a o kvs, x = .ref a ∧ t = .type "dict" ∧ H a = some (.frz o (.dT kvs))
theorem Nw.ty {K : PySem.W.Frag} {sx : Sx} {F H : Hp} {v : V} {d : D} (b : Base sx F H) (h : Nw K F H v d) : TyZ K H v (.type (tyN d)) := by
  cases d with
  | none => cases h.none; exact .inl (.base .non)
  | bool x => cases h.bool; exact .inl (.base (.bl x))
  | int x => cases h.int; exact .inl (.base (.int x))
  | str x => cases h.str; exact .inl (.base (.str x))
  | list ds => obtain ⟨a, xs, rfl, h1, _⟩ := h.list b.le; exact .inl (.base (.lst h1))
  | tuple ds => obtain ⟨a, xs, rfl, h1, _⟩ := h.tuple; exact .inl (.base (.tup (b.le _ _ h1)))
  | dict es =>
    obtain ⟨a, rfl, ⟨kvs, rd, _⟩ | ⟨kvs, rd, _⟩⟩ := h.dict b.le
    · rcases rd with rd | ⟨o, rd⟩
      · exact .inl (.base (.dK rd))
      · exact .inl (.fDict rd)
    · rcases rd with rd | ⟨o, rd⟩
      · exact .inl (.base (.dT rd))
      · exact .inr ⟨a, o, kvs, rfl, rfl, rd⟩
def rIsiZ (K : PySem.W.Frag) (T : String) : List V → Hp → VK → Prop := fun xs H Q => ∃ (x : V) (t : Value) (b : Bool), xs = [x, .ty T] ∧ TyZ K H x t ∧ PySem.W.kitOne K t (.type T) = some b ∧ Q (.bl b) H
theorem cr_isi {X : Cx} (T : String) : CallR X (.builtin "isinstance") (rIsiZ X.K T) := by
  intro pins s σ H xs us Q I r h
  obtain ⟨x, t, b, rfl, ty, e, q⟩ := h
  rcases ty with ty | ⟨a, o, kvs, rfl, rfl, hd⟩
  · exact call_isi pins s σ H _ us Q I r ⟨x, .ty T, t, .type T, b, rfl, .ty T, ty, e, q⟩
  · obtain ⟨u1, u2, rfl, r1, r2⟩ := vals2 r
    cases (show u1 = Value.ref a from r1)
    cases (show u2 = Value.type T from r2)
    obtain ⟨hd', z, hs, xs, pr, ob, es, ep, ho, hx, hdt, he, _⟩ := I.hok a _ hd
    exact PySem.W.kia_one PySem.W.kitx_dict I.kIn ⟨ob, ho, hx.1⟩ e (fun z => nomatch z) fun tk => ⟨.bl b, H, I.tok tk, rfl, q⟩
theorem pe_ty {X : Cx} {T : String} {x : Str} {pos : Pos} (hg : Gl X x) (hm : X.mg x = none) (hv : bootBuiltins x = some (.type T)) (hn : x ≠ "__name__" := by decide) (hd : (x == ("__debug__" : Str)) = false := by decide) : PE X (.Name x pos) (tC (.ty T)) :=
  ⟨fun pins s σ H Q I h => ld_blt I hg hm hv ⟨.ty T, H, I, rfl, h⟩ hn hd⟩
def wIsi (T : String) (we : WE) : WE := fun η Q => we η fun d => Q (.bool (isiT d T))
section
variable {X : Cx} {e : Expr} {te : TE} {we : WE} {p p2 pos : Pos} {T : String} {x : Str}
theorem de_isi (K : PySem.W.Frag) (hK : X.K = K) (hk : ∀ (K : PySem.W.Frag) (d : D), PySem.W.kitOne K (.type (tyN d)) (.type T) = some (isiT d T)) (hv : bootBuiltins x = some (.type T)) (hg : Gl X "isinstance") (hm : X.mg "isinstance" = none) (hgx : Gl X x) (hmx : X.mg x = none) (he : DO X e te we)
    (hb : bootBuiltins "isinstance" = some (.builtin "isinstance")) (hn : x ≠ "__name__" := by decide) (hd : (x == ("__debug__" : Str)) = false := by decide)
    (hs : starEach [e, .Name x p2] X.env = (false, eval e X.env) :: starEach [.Name x p2] X.env := by rfl) (hs2 : starEach [.Name x p2] X.env = (false, eval (.Name x p2) X.env) :: starEach [] X.env := by rfl) (hpl : (backTo pos (starEach [.Name x p2] X.env)).any (·.1) = false := by rfl) :
    DE X (.Call (.Name "isinstance" p) [e, .Name x p2] [] pos) (tCB (rIsiZ K T) (tCons te (tCons (tC (.ty T)) tNil))) (wIsi T we) := by
  subst hK
  refine ⟨pe_callB (cr_isi T) hg hm hb (pa_cons he.pe (pa_cons (pe_ty hgx hmx hv hn hd) pa_nil hs2) hs) (by decide) (by decide) hs hpl, fun {sx H0 F0 F σ H η Q R} r hw k => he.sem r hw fun d v F1 H1 q e o => ?_⟩
  have r1 := r.ext e
  exact ⟨v, _, _, rfl, (o.nw r1).ty r1.base, hk _ d, (k.ext e).now r1.base q (.bl _)⟩
end
theorem bt_isinstance : bootBuiltins "isinstance" = some (.builtin "isinstance") := by decide +kernel
/-! ### is, is not: None, a truth value -/
def gIs (neg : Bool) : D → D → (D → Prop) → Prop
  | x, .none, Q => Q (.bool (match x with | .none => !neg | _ => neg))
  | .bool a, .bool b, Q => Q (.bool (if neg then !decide (a = b) else decide (a = b)))
  | _, _, _ => False
def rIsA (neg : Bool) : R2 := fun x y H Q => (y = .non ∧ Q (.bl (if neg then !decide (x = .non) else decide (x = .non))) H) ∨ ∃ a b, x = .bl a ∧ y = .bl b ∧ Q (.bl (if neg then !decide (a = b) else decide (a = b))) H
theorem op_isA {X : Cx} : OpR X (compareOp .Is) (rIsA false) := OpR.or op_isN op_isBl
theorem op_notA {X : Cx} : OpR X (compareOp .IsNot) (rIsA true) := OpR.or op_notN op_notBl
theorem rs_is {K : PySem.W.Frag} {neg : Bool} : RSem K (rIsA neg) (gIs neg) := fun {sx F H x y dx dy Q R} b hx hy hg k => by
  cases dy with
  | none =>
    cases hy.none
    refine .inl ⟨rfl, ?_⟩
    by_cases e : dx = .none
    · subst e
      cases hx.none
      have hg' : Q (.bool (!neg)) := hg
      have := k.now b (d := .bool (!neg)) (v := .bl (!neg)) hg' (.bl _)
      cases neg <;> exact this
    · have hn := hx.notNon e
      have hg' : Q (.bool neg) := by cases dx <;> first | exact absurd rfl e | exact hg
      have := k.now b (d := .bool neg) (v := .bl neg) hg' (.bl _)
      cases neg
      · rw [if_neg Bool.false_ne_true, decide_eq_false hn]; exact this
      · rw [if_pos rfl, decide_eq_false hn]; exact this
  | bool c =>
    cases dx <;> first | exact hg.elim | skip
    cases hx.bool; cases hy.bool
    exact .inr ⟨_, _, rfl, rfl, k.now b hg (.bl _)⟩
  | _ => cases dx <;> exact hg.elim
end W2

set_option Elab.async false
set_option linter.all false
set_option maxRecDepth 100000
/-! W2O: starred places, while, x op= e, dict displays, a new dict frozen at once. -/
namespace W2
open PySem PySem.Spec PyProof.Rows L2

/-! ### (*x, y) -/
def wStar (we : WE) (w : WA) : WA := fun η Q => we η fun d => match d with
  | .list ds => w η fun es => Q (ds ++ es)
  | .tuple ds => w η fun es => Q (ds ++ es)
  | _ => False
section
variable {X : Cx} {e : Expr} {es : List Expr} {te : TE} {t : TA} {we : WE} {w : WA} {p : Pos}
theorem db_star (K : PySem.W.Frag) (hK : X.K = K) (h : DO X e te we) (hr : DB X es t w) (hs : starEach (.Starred e p :: es) X.env = (true, eval e X.env) :: starEach es X.env := by rfl) : DB X (.Starred e p :: es) (StX.tStar K te t) (wStar we w) := by
  subst hK
  refine ⟨StX.pa_star h.pe hr.pa hs, fun {sx H0 F0 F σ H η Q R} r hw k => h.sem r hw fun d v F1 H1 q e1 o => ?_⟩
  have r1 := r.ext e1
  cases d <;> first | exact q.elim | skip
  · obtain ⟨a, xs, rfl, h1, h2⟩ := (o.nw r1).list r1.base.le
    exact ⟨a, xs, rfl, .inr (SqL.of h1), hr.sem r1 q fun ds vs F2 H2 q2 e2 hd => k _ _ F2 H2 q2 (e1.trans e2) ((h2.mono e2.sF).append hd)⟩
  · obtain ⟨a, xs, rfl, h1, h2⟩ := (o.nw r1).tupleH r1.base.le
    exact ⟨a, xs, rfl, .inl h1, hr.sem r1 q fun ds vs F2 H2 q2 e2 hd => k _ _ F2 H2 q2 (e1.trans e2) ((h2.mono e2.sF).append hd)⟩
end

/-! ### while -/
theorem sem_while {K : PySem.W.Frag} {tc : TT} {wc : WT} {tb : TS} {wb : WS} (hc : SemT K tc wc) (hb : SemS K tb wb) : SemS K (tWhile tc tb) (wWhile wc wb) := fun {sx H0 F0 F σ H η D R} r hw k => by
  obtain ⟨I, ⟨m0, i0⟩, turn⟩ := hw
  refine ⟨fun m σ' H' => ∃ F' η', Same F F' ∧ Rep K sx H0 F0 F' σ' H' η' ∧ I m η', ⟨m0, F, η, Same.refl _, r, i0⟩, ?_⟩
  rintro m σ' H' ⟨F', η', sF, r', hi⟩
  refine hc r' (turn m η' hi) fun b F1 H1 q e => ?_
  cases b with
  | true =>
    rw [if_pos rfl] at q ⊢
    refine ⟨fun σ2 H2 => ∃ m', m' < m ∧ ∃ F2 η2, Same F F2 ∧ Rep K sx H0 F0 F2 σ2 H2 η2 ∧ I m' η2, fun σ2 H2 ⟨m', lt, F2, η2, a1, a2, a3⟩ => ⟨m', lt, F2, η2, a1, a2, a3⟩, ?_⟩
    have s1 := sF.trans e.sF
    exact hb (r'.ext e) q ⟨fun η4 σ4 F4 H4 q4 s4 r4 => ⟨q4.choose, q4.choose_spec.1, F4, η4, s1.trans s4, r4, q4.choose_spec.2⟩, fun η4 σ4 F4 H4 q4 s4 r4 => k.nx _ _ _ _ q4 (s1.trans s4) r4,
      fun η4 σ4 F4 H4 q4 s4 r4 => ⟨q4.choose, q4.choose_spec.1, F4, η4, s1.trans s4, r4, q4.choose_spec.2⟩, k.rt⟩
  | false =>
    rw [if_neg Bool.false_ne_true] at q ⊢
    exact k.nx _ _ _ _ q (sF.trans e.sF) (r'.ext e)
theorem ds_while {X : Cx} {c : Expr} {body : List Stmt} {pos : Pos} {tc : TT} {wc : WT} {tb : TS} {wb : WS} (hp : PassesOwn (model X.prog X.w) X.A X.env X.xe) (hc : DTs X c tc wc) (hb : DSs X body tb wb) : DS X (.While c body [] pos) (tWhile tc tb) (wWhile wc wb) :=
  ⟨ps_while hp hc.pt hb.pss, sem_while hc.sem hb.sem⟩

/-! ### name op= e, a frozen value -/
def wAug (i : Nat) (we : WE) (g : D → D → (D → Prop) → Prop) : WS := fun W η => match η[i]? with
  | some (.fz x) => we η fun y => g x y fun z => W.nx (η.set i (.fz z))
  | _ => False
theorem sem_aug {K : PySem.W.Frag} {i : Nat} {te : TE} {we : WE} {r : R2} {g : D → D → (D → Prop) → Prop} (hs : RSem K r g) (he : SemO K te we) : SemS K (tAug i te r) (wAug i we g) := fun {sx H0 F0 F σ H η D R} rp hw k => by
  unfold wAug at hw
  split at hw
  · rename_i x hi
    obtain ⟨sv, hv, v, rfl, hd⟩ := rp.val hi
    refine ⟨v, hv, he rp hw fun y u F1 H1 q e o => ?_⟩
    have r1 := rp.ext e
    refine hs r1.base (.inl (hd.mono e.sF)) (o.nw r1) q fun z w F2 H2 q2 e2 hz => ?_
    exact k.nx _ _ _ _ q2 (e.sF.trans e2.sF) ((r1.ext e2).setFz i hz)
  · exact hw.elim
section
variable {X : Cx} {x : Str} {e : Expr} {te : TE} {we : WE} {op : Operator} {pos' pos : Pos} {r : R2} {g : D → D → (D → Prop) → Prop}
theorem ds_aug (i : Nat) (hN : X.N.Nodup) (ho : OpR X (inplaceOp op) r) (hs : RSem X.K r g) (he : DO X e te we) (hi : X.N[i]? = some x := by rfl) (hx : Loc X.env.scope x := by first | exact Or.inl rfl | exact Or.inr rfl)
    (hf : X.fn x = true ∨ X.env.scope.names.lookup x = some .local := by first | exact .inl rfl | exact .inr rfl) : DS X (.AugAssign (.Name x pos') op e pos) (tAug i te r) (wAug i we g) :=
  ⟨ps_aug hN hi hx he.pe ho hf, sem_aug hs he.sem⟩
theorem iop_mulW : OpR X (inplaceOp .Mult) (rI CMulW fun i j => .int (i * j)) := opI fun _ _ _ _ _ _ _ hc q => imul_int q hc.ok
end

/-! ### a new dict frozen at once -/
def tLk (t : TE) : TE := fun σ H Q => t σ H fun x H1 => ∃ a u, x = .ref a ∧ H1 a = some u ∧ Mut (some u) ∧ ∀ o, Q x (upd H1 a (.frz o u))
theorem pe_lk {X : Cx} {e : Expr} {t : TE} (h : PE X e t) : PE X e (tLk t) := ⟨fun pins s σ H Q I hw => thn (h.run pins s σ H _ I hw) fun u s1 ⟨x, H1, I1, rx, a, v, ex, hv, mu, q⟩ => by
  obtain ⟨o, I2⟩ := I1.lock hv mu
  exact ⟨x, _, I2, rx, q o⟩⟩
theorem DD.fr {X : Cx} {e : Expr} {t : TE} {w : WE} (h : DD X e t w) : DE X e (tLk t) w :=
  ⟨pe_lk h.pe, fun {sx H0 F0 F σ H η Q R} r hw k => h.sem r hw fun es a F1 H1 q e ho hF hn => by
    have r1 := r.ext e
    have nx : ¬ inSx sx a := fun z => by obtain ⟨o, q⟩ := r.base.ok.there z; rw [hn] at q; cases q
    have go : ∀ (u : HO), H1 a = some u → (∀ o F2, Same F1 F2 → F2 a = some (.frz o u) → Dt X.K F2 (.ref a) (.dict es)) → ∀ o, R (.ref a) (upd H1 a (.frz o u)) := fun u hu hd o => by
      have s1 : Same F1 (upd F1 a (.frz o u)) := fun b v z => by rw [upd_ne (ne_of_none z hF)]; exact z
      refine k (.dict es) (.ref a) (upd F1 a (.frz o u)) _ q ⟨e.sF.trans s1, fun b v z n => ?_, fun b v z => ?_, fun b v z => ?_, ?_⟩ (hd o _ s1 upd_same)
      · rw [upd_ne (ne_of_none z hn)]; exact e.sH _ _ z n
      · by_cases c : b = a
        · subst c; rw [upd_same] at z ⊢; exact z
        · rw [upd_ne c] at z ⊢; exact e.le _ _ z
      · by_cases c : b = a
        · subst c; exact .inr (.inl hn)
        · rw [upd_ne c] at z; exact e.fr _ _ z
      · cases sx with
        | none => trivial
        | some p =>
          obtain ⟨a1, b1⟩ := p
          obtain ⟨n, cs, l, m, t, z1, z2, z⟩ := e.ok
          exact ⟨n, cs, l, m, t, by rw [upd_ne (fun z => nx (.inl z.symm))]; exact z1, by rw [upd_ne (fun z => nx (.inr z.symm))]; exact z2, z⟩
    rcases ho with ⟨kvs, h1, h2⟩ | ⟨kvs, h1, h2⟩
    · exact ⟨a, _, rfl, h1, trivial, go _ h1 fun o F2 s hF2 => .dK hF2 (h2.mono s)⟩
    · exact ⟨a, _, rfl, h1, trivial, go _ h1 fun o F2 s hF2 => .dT hF2 (h2.mono s)⟩⟩
/-! ### {k: v, ..}, keys ints and texts -/
def wPairs : List (WE × WE) → En → (List (D × D) → Prop) → Prop
  | [], _, Q => Q []
  | (wk, wv) :: r, η, Q => wk η fun k => wv η fun v => wPairs r η fun ps => Q ((k, v) :: ps)
structure DPs (X : Cx) (pos : Pos) (keys : List (Option Expr)) (values : List Expr) (trs : List (TE × TE)) (ws : List (WE × WE)) : Prop where
  pps : PPs X pos keys values trs
  sem : ∀ {sx : Sx} {H0 F0 F : Hp} {σ : L2.St} {H : Hp} {η : En} {Q : List (D × D) → Prop} {R : List (V × V) → Hp → Prop}, Rep X.K sx H0 F0 F σ H η → wPairs ws η Q →
    (∀ ds ps F' H', Q ds → ds.length = trs.length → Ext2 sx F H F' H' → Paired (fun (p : V × V) (d : D × D) => Dt X.K F' p.1 d.1 ∧ Dt X.K F' p.2 d.2) ps ds → R ps H') → tPairs trs σ H R
section
variable {X : Cx} {pos : Pos} {k v : Expr} {ks : List (Option Expr)} {vs : List Expr} {tk tv : TE} {wk wv : WE} {trs : List (TE × TE)} {ws : List (WE × WE)}
theorem dps_nil : DPs X pos [] [] [] [] := ⟨pps_nil, fun r hw kk => kk [] [] _ _ hw rfl (.refl r.base) .nil⟩
theorem dps_cons (hk : DE X k tk wk) (hv : DE X v tv wv) (hr : DPs X pos ks vs trs ws) : DPs X pos (some k :: ks) (v :: vs) ((tk, tv) :: trs) ((wk, wv) :: ws) :=
  ⟨pps_cons hk.pe hv.pe hr.pps, fun r hw kk => hk.sem r hw fun dk x F1 H1 q1 e1 h1 => hv.sem (r.ext e1) q1 fun dv y F2 H2 q2 e2 h2 => hr.sem ((r.ext e1).ext e2) q2 fun ds ps F3 H3 q3 l3 e3 h3 =>
    kk _ _ F3 H3 q3 (congrArg (· + 1) l3) ((e1.trans e2).trans e3) (.cons ⟨h1.mono (e2.sF.trans e3.sF), h2.mono e3.sF⟩ h3)⟩
end
def keysOf : List (D × D) → Option (List (Key × D))
  | [] => some []
  | (.int i, v) :: r => (keysOf r).map ((.inl i, v) :: ·)
  | (.str x, v) :: r => (keysOf r).map ((.inr x, v) :: ·)
  | _ => none
def wDisp (ws : List (WE × WE)) : WE := fun η Q => wPairs ws η fun ps => ∃ kvs, keysOf ps = some kvs ∧ Q (.dict (mergeD kvs))
theorem keys_dt {K : PySem.W.Frag} {F : Hp} : ∀ {ps : List (V × V)} {ds : List (D × D)} {kvs : List (Key × D)}, Paired (fun (p : V × V) (d : D × D) => Dt K F p.1 d.1 ∧ Dt K F p.2 d.2) ps ds → keysOf ds = some kvs →
    ∃ kvv : List (Key × V), ps = kvv.map (fun kv => (kV kv.1, kv.2)) ∧ Paired (fun (x : Key × V) (y : Key × D) => x.1 = y.1 ∧ Dt K F x.2 y.2) kvv kvs
  | _, _, _, .nil, e => by cases e; exact ⟨[], rfl, .nil⟩
  | p :: ps, (dk, dv) :: ds, kvs, .cons h t, e => by
    have go : ∀ (k : Key) (r : List (Key × D)), dk = kD k → keysOf ds = some r → kvs = (k, dv) :: r → ∃ kvv : List (Key × V), p :: ps = kvv.map (fun kv => (kV kv.1, kv.2)) ∧ Paired (fun (x : Key × V) (y : Key × D) => x.1 = y.1 ∧ Dt K F x.2 y.2) kvv kvs := fun k r e1 e2 e3 => by
      obtain ⟨kvv, h1, h2⟩ := keys_dt t e2
      subst e1 e3
      have ek := h.1.keyV
      obtain ⟨x, y⟩ := p
      have ek' : x = kV k := ek
      subst ek'
      exact ⟨(k, y) :: kvv, by rw [List.map_cons, h1], .cons ⟨rfl, h.2⟩ h2⟩
    unfold keysOf at e
    split at e
    · rename_i heq; cases heq
    · rename_i i v r heq
      cases heq
      cases q : keysOf ds with
      | none => rw [q] at e; cases e
      | some r => rw [q] at e; cases e; exact go (.inl i) r rfl q rfl
    · rename_i i v r heq
      cases heq
      cases q : keysOf ds with
      | none => rw [q] at e; cases e
      | some r => rw [q] at e; cases e; exact go (.inr i) r rfl q rfl
    · cases e
theorem dd_disp {X : Cx} {pos : Pos} {keys : List (Option Expr)} {values : List Expr} {trs : List (TE × TE)} {ws : List (WE × WE)} (h : DPs X pos keys values trs ws) (ht : trs.length ≤ 15 := by decide) (hall : keys.all (·.isSome) = true := by rfl) (hl : keys.length = values.length := by rfl) (h0 : keys ≠ [] := by exact fun h => nomatch h)
    (h15 : keys.length ≤ 15 := by decide) : DD X (.Dict keys values pos) (tDisp trs) (wDisp ws) :=
  ⟨pe_disp h.pps hall hl h0 h15, fun {sx H0 F0 F σ H η Q R} r hv k p hp => by
    have e0 := Ext2.newF (o := .dK []) r.base hp
    have nx : ¬ inSx sx p := fun z => by obtain ⟨o, q⟩ := r.base.ok.there z; rw [hp] at q; cases q
    have hF : F p = none := by
      cases z : F p with
      | none => rfl
      | some o => rw [r.base.le _ _ z] at hp; cases hp
    refine h.sem (r.ext e0) hv fun ds ps F1 H1 q hl e1 hps => ?_
    obtain ⟨kvs, ek, q'⟩ := q
    obtain ⟨kvv, rfl, h3⟩ := keys_dt hps ek
    have hb := e1.sH _ _ (upd_same (H := H) (a := p) (o := .dK [])) nx
    have hF1 : F1 p = none := by
      cases z : F1 p with
      | none => rfl
      | some u =>
        rcases e1.fr _ _ z with y | y | ⟨xs, rfl⟩
        · rw [hF] at y; cases y
        · rw [upd_same] at y; cases y
        · have y := e1.le _ _ z
          rw [hb] at y; cases y
    have l2 : kvv.length ≤ 15 := by
      have := Paired.length hps
      rw [List.length_map] at this
      omega
    refine ⟨hb, kvv, rfl, l2, ?_⟩
    have e2 := e0.trans e1
    refine k _ p F1 _ q' ⟨e2.sF, fun b o z n => ?_, fun b o z => ?_, e2.fr, ?_⟩ (.inl ⟨_, upd_same, merge_dt h3 .nil⟩) hF1 hp
    · rw [upd_ne (ne_of_none z hp)]; exact e2.sH _ _ z n
    · rw [upd_ne (ne_of_none z hF1)]; exact e2.le _ _ z
    · cases sx with
      | none => trivial
      | some pp =>
        obtain ⟨a1, b1⟩ := pp
        obtain ⟨n, cs, l, m, t, z1, z2, z⟩ := e2.ok
        exact ⟨n, cs, l, m, t, by rw [upd_ne (fun z => nx (.inl z.symm))]; exact z1, by rw [upd_ne (fun z => nx (.inr z.symm))]; exact z2, z⟩⟩
end W2

set_option Elab.async false
set_option linter.all false
set_option maxRecDepth 100000
/-! W2Y: over data alone: loops, lots of ints, dicts with lots as keys, sorting. -/
namespace W2
open PySem PySem.Spec PyProof.Rows L2 PySem.W

/-! ### loops -/
theorem lc_rel {α : Type} (e : α → D) (Rel : α → Option D → Prop) {g : WG} {tt : WT} {we : WE} {η : En} {Q : D → Prop} : ∀ (xs : List α) (acc : List D),
    (∀ x ∈ xs, ∀ R : Option D → Prop, (∀ o, Rel x o → R o) → g (e x) η fun η1 => tt η1 fun b => if b = true then we η1 fun y => R (some y) else R none) →
    acc.length + xs.length ≤ sizeLine → (∀ os, Paired Rel xs os → Q (.list (acc ++ os.filterMap id))) → lcGo g tt we η (xs.map e) acc Q
  | [], acc, _, _, q => by
    have q' := q [] .nil
    rw [List.filterMap_nil, List.append_nil] at q'
    exact q'
  | x :: r, acc, h, hl, q => by
    have hl' : acc.length + (r.length + 1) ≤ sizeLine := hl
    refine h x List.mem_cons_self (fun o => match o with | some y => acc.length < sizeLine ∧ lcGo g tt we η (r.map e) (acc ++ [y]) Q | none => lcGo g tt we η (r.map e) acc Q) fun o ho => ?_
    cases o with
    | none =>
      refine lc_rel e Rel r acc (fun y hy => h y (List.mem_cons_of_mem _ hy)) (by omega) fun os hos => ?_
      have q' := q (none :: os) (.cons ho hos)
      exact q'
    | some y =>
      refine ⟨by omega, lc_rel e Rel r (acc ++ [y]) (fun z hz => h z (List.mem_cons_of_mem _ hz)) (by rw [List.length_append]; show acc.length + 1 + r.length ≤ _; omega) fun os hos => ?_⟩
      have q' := q (some y :: os) (.cons ho hos)
      rw [List.append_assoc]
      exact q'
theorem paired_fn {α β : Type} {f : α → β} : ∀ {xs : List α} {ys : List β}, Paired (fun x y => y = f x) xs ys → ys = xs.map f
  | _, _, .nil => rfl
  | _, _, .cons h t => by rw [List.map_cons, h, paired_fn t]
theorem lc_fm {α : Type} (e : α → D) (f : α → Option D) {g : WG} {tt : WT} {we : WE} {η : En} {Q : D → Prop} (xs : List α)
    (h : ∀ x ∈ xs, ∀ R : Option D → Prop, R (f x) → g (e x) η fun η1 => tt η1 fun b => if b = true then we η1 fun y => R (some y) else R none)
    (hl : xs.length ≤ sizeLine) (q : Q (.list (xs.filterMap f))) : lcGo g tt we η (xs.map e) [] Q := by
  refine lc_rel e (fun x o => o = f x) xs [] (fun x hx R hR => h x hx R (hR _ rfl)) (by simpa using hl) fun os hos => ?_
  rw [paired_fn hos, List.nil_append, List.filterMap_map]
  exact q
/-- a loop, whatever it draws -/
inductive Steps {S α : Type} (St : S → α → S → Prop) : S → List α → S → Prop
  | nil {s : S} : Steps St s [] s
  | cons {s s1 s2 : S} {x : α} {r : List α} : St s x s1 → Steps St s1 r s2 → Steps St s (x :: r) s2
theorem for_rel {S α : Type} (e : α → D) (I : S → En → Prop) (St : S → α → S → Prop) {g : WG} {body : WS} {W : WEnds} : ∀ (xs : List α) (s : S) (η : En), I s η →
    (∀ x ∈ xs, ∀ s η, I s η → ∀ Kc : En → Prop, (∀ s' η', St s x s' → I s' η' → Kc η') → g (e x) η fun η1 => body { nx := Kc, rt := W.rt, bk := W.nx, ct := Kc } η1) →
    (∀ s' η', Steps St s xs s' → I s' η' → W.nx η') → forGo g body W (xs.map e) η
  | [], s, η, hi, _, hend => hend s η .nil hi
  | x :: r, s, η, hi, h, hend => h x List.mem_cons_self s η hi _ fun s' η' hs hi' =>
      for_rel e I St r s' η' hi' (fun y hy => h y (List.mem_cons_of_mem _ hy)) fun s2 η2 hst hi2 => hend s2 η2 (.cons hs hst) hi2
theorem steps_fold {S α : Type} {f : S → α → S} : ∀ {xs : List α} {s s' : S}, Steps (fun s x s' => s' = f s x) s xs s' → s' = xs.foldl f s
  | [], _, _, .nil => rfl
  | _ :: _, _, _, .cons h t => (steps_fold t).trans (by rw [h]; rfl)
theorem for_fold {S α : Type} (e : α → D) (I : S → En → Prop) (f : S → α → S) {g : WG} {body : WS} {W : WEnds} (xs : List α) (s : S) (η : En) (hi : I s η)
    (h : ∀ x ∈ xs, ∀ s η, I s η → ∀ Kc : En → Prop, (∀ η', I (f s x) η' → Kc η') → g (e x) η fun η1 => body { nx := Kc, rt := W.rt, bk := W.nx, ct := Kc } η1)
    (hend : ∀ η', I (xs.foldl f s) η' → W.nx η') : forGo g body W (xs.map e) η :=
  for_rel e I (fun s x s' => s' = f s x) xs s η hi (fun x hx s η hi Kc hk => h x hx s η hi Kc fun η' hi' => hk _ η' rfl hi') fun s' η' hst hi' => hend η' (by rw [← steps_fold hst]; exact hi')

/-! ### lots of ints, pairs of a lot and a number -/
def lotD (l : List Int) : D := .tuple (l.map .int)
def prD (p : List Int × Int) : D := .tuple [lotD p.1, .int p.2]
def rsD (s : List (List Int × Int)) : D := .tuple (s.map prD)
def mpE (p : List Int × Int) : D × D := (lotD p.1, .int p.2)
def mpD (m : List (List Int × Int)) : D := .dict (m.map mpE)
theorem eqvAll_ints : ∀ (a b : List Int), PyData.eqvAll (a.map .int) (b.map .int) = decide (a = b)
  | [], [] => rfl
  | [], _ :: _ => rfl
  | _ :: _, [] => rfl
  | x :: a, y :: b => by
    show (PyData.eqv (.int x) (.int y) && PyData.eqvAll (a.map .int) (b.map .int)) = _
    rw [eqvAll_ints a b]
    show ((x == y) && _) = _
    by_cases e : x = y
    · subst e
      by_cases e' : a = b
      · subst e'; simp
      · rw [decide_eq_false e', decide_eq_false (fun z => e' (List.cons.inj z).2), Bool.and_false]
    · rw [decide_eq_false (fun z => e (List.cons.inj z).1), beq_eq_false_iff_ne.mpr e, Bool.false_and]
theorem eqv_lot (a b : List Int) : PyData.eqv (lotD a) (lotD b) = decide (a = b) := eqvAll_ints a b
theorem eqv_pr (p q : List Int × Int) : PyData.eqv (prD p) (prD q) = decide (p = q) := by
  show (PyData.eqv (lotD p.1) (lotD q.1) && ((p.2 == q.2) && true)) = _
  rw [eqv_lot, Bool.and_true]
  by_cases e : p.1 = q.1
  · by_cases e' : p.2 = q.2
    · rw [decide_eq_true e, beq_iff_eq.mpr e', decide_eq_true (Prod.ext e e')]; rfl
    · rw [beq_eq_false_iff_ne.mpr e', Bool.and_false, decide_eq_false (fun z => e' (by rw [z]))]
  · rw [decide_eq_false e, Bool.false_and, decide_eq_false (fun z => e (by rw [z]))]
theorem eqvAll_map {α : Type} [DecidableEq α] {e : α → D} (h : ∀ a b, PyData.eqv (e a) (e b) = decide (a = b)) : ∀ (a b : List α), PyData.eqvAll (a.map e) (b.map e) = decide (a = b)
  | [], [] => rfl
  | [], _ :: _ => rfl
  | _ :: _, [] => rfl
  | x :: a, y :: b => by
    show (PyData.eqv (e x) (e y) && PyData.eqvAll (a.map e) (b.map e)) = _
    rw [eqvAll_map h a b, h]
    by_cases c : x = y
    · subst c
      by_cases e' : a = b
      · subst e'; simp
      · rw [decide_eq_false e', decide_eq_false (fun z => e' (List.cons.inj z).2), Bool.and_false]
    · rw [decide_eq_false (fun z => c (List.cons.inj z).1), decide_eq_false c, Bool.false_and]
theorem eqv_rs (s t : List (List Int × Int)) : PyData.eqv (rsD s) (rsD t) = decide (s = t) := eqvAll_map eqv_pr s t
/-! what can be laid, compared -/
theorem layAll_map {α : Type} {e : α → D} (h : ∀ a, (e a).canLay0 = true) : ∀ (l : List α), PyData.canLayAll0 (l.map e) = true
  | [] => rfl
  | x :: r => by
    show ((e x).canLay0 && PyData.canLayAll0 (r.map e)) = true
    rw [h, layAll_map h r]; rfl
theorem depthAll_map {α : Type} {e : α → D} {n : Nat} (h : ∀ a, (e a).depth ≤ n) : ∀ (l : List α), PyData.depthAll (l.map e) ≤ n
  | [] => Nat.zero_le _
  | x :: r => by
    show max (e x).depth (PyData.depthAll (r.map e)) ≤ n
    exact Nat.max_le.mpr ⟨h x, depthAll_map h r⟩
theorem lay_lot (l : List Int) : (lotD l).canLay0 = true := layAll_map (e := PyData.int) (fun _ => rfl) l
theorem depth_lot (l : List Int) : (lotD l).depth ≤ 1 := Nat.succ_le_succ (depthAll_map (e := PyData.int) (fun _ => Nat.le_refl 0) l)
theorem lay_pr (p : List Int × Int) : (prD p).canLay0 = true := by
  show ((lotD p.1).canLay0 && (true && true)) = true
  rw [lay_lot]; rfl
theorem depth_pr (p : List Int × Int) : (prD p).depth ≤ 2 := by
  show max (lotD p.1).depth (max 0 0) + 1 ≤ 2
  have := depth_lot p.1
  omega
theorem lay_rs (s : List (List Int × Int)) : (rsD s).canLay0 = true := layAll_map lay_pr s
theorem depth_rs (s : List (List Int × Int)) : (rsD s).depth ≤ 3 := Nat.succ_le_succ (depthAll_map depth_pr s)
theorem shaped_of {d : D} (h1 : d.canLay0 = true) (h2 : d.depth ≤ 64) : SeqAt.shaped d = true := by
  unfold SeqAt.shaped
  rw [h1, decide_eq_true h2]; rfl
theorem shaped_lot (l : List Int) : SeqAt.shaped (lotD l) = true := shaped_of (lay_lot l) (Nat.le_trans (depth_lot l) (by decide))
theorem shaped_rs (s : List (List Int × Int)) : SeqAt.shaped (rsD s) = true := shaped_of (lay_rs s) (Nat.le_trans (depth_rs s) (by decide))
theorem eqOk_of {x y : D} (h1 : SeqAt.shaped x = true) (h2 : SeqAt.shaped y = true) : eqOk x y = true := by
  unfold eqOk
  cases x <;> cases y <;> simp_all
theorem alikeAll_map {α : Type} {e : α → D} (h : ∀ a b, alike (e a) (e b) = true) : ∀ (a b : List α), alikeAll (a.map e) (b.map e) = true
  | [], _ => by simp [alikeAll]
  | _ :: _, [] => by simp [alikeAll]
  | x :: a, y :: b => by
    show alikeAll (e x :: a.map e) (e y :: b.map e) = true
    rw [alikeAll, h, alikeAll_map h a b]; rfl
theorem alike_lot (a b : List Int) : alike (lotD a) (lotD b) = true := by
  show alike (.tuple _) (.tuple _) = true
  rw [alike]
  exact alikeAll_map (fun _ _ => by rw [alike]) a b
theorem alike_pr (p q : List Int × Int) : alike (prD p) (prD q) = true := by
  show alike (.tuple _) (.tuple _) = true
  rw [alike, alikeAll, alike_lot, alikeAll, alike, alikeAll]; rfl
theorem sortOk_map {α : Type} {e : α → D} (l : List α) (h1 : ∀ a b, alike (e a) (e b) = true) (h2 : ∀ a, isTup (e a) = true) (h3 : ∀ a, (e a).depth ≤ 64) : sortOk (l.map e) = true := by
  unfold sortOk
  rw [Bool.and_eq_true, Bool.and_eq_true]
  refine ⟨⟨?_, ?_⟩, ?_⟩
  · rw [List.all_eq_true]
    intro d hd
    rw [List.all_eq_true]
    intro d' hd'
    obtain ⟨a, _, rfl⟩ := List.mem_map.mp hd
    obtain ⟨b, _, rfl⟩ := List.mem_map.mp hd'
    exact h1 a b
  · rw [Bool.or_eq_true]
    refine .inl ?_
    rw [List.all_eq_true]
    intro d hd
    obtain ⟨a, _, rfl⟩ := List.mem_map.mp hd
    exact h2 a
  · rw [List.all_eq_true]
    intro d hd
    obtain ⟨a, _, rfl⟩ := List.mem_map.mp hd
    exact decide_eq_true (h3 a)
theorem sortOk_pr (l : List (List Int × Int)) : sortOk (l.map prD) = true := sortOk_map l alike_pr (fun _ => rfl) fun p => Nat.le_trans (depth_pr p) (by decide)
theorem sortOk_lot (l : List (List Int)) : sortOk (l.map lotD) = true := sortOk_map l alike_lot (fun _ => rfl) fun p => Nat.le_trans (depth_lot p) (by decide)
/-! the orders -/
def leP (p q : List Int × Int) : Bool := dataLe false id (prD p) (prD q)
def leL (p q : List Int) : Bool := dataLe false id (lotD p) (lotD q)
theorem leP_total : TotalLe leP := ⟨fun a b c h1 h2 => (sortLe_total (listOrd itemOrd) false keyToks).trans (prD a) (prD b) (prD c) h1 h2, fun a b => (sortLe_total (listOrd itemOrd) false keyToks).total (prD a) (prD b)⟩
theorem leL_total : TotalLe leL := ⟨fun a b c h1 h2 => (sortLe_total (listOrd itemOrd) false keyToks).trans (lotD a) (lotD b) (lotD c) h1 h2, fun a b => (sortLe_total (listOrd itemOrd) false keyToks).total (lotD a) (lotD b)⟩
theorem sortD_pr (l : List (List Int × Int)) : sortD (l.map prD) = (l.mergeSort leP).map prD := (sort_maps (r := leP) (s := dataLe false id) prD fun a _ b _ => rfl).symm
theorem sortD_lot (l : List (List Int)) : sortD (l.map lotD) = (l.mergeSort leL).map lotD := (sort_maps (r := leL) (s := dataLe false id) lotD fun a _ b _ => rfl).symm
theorem le_toks {x y : D} (h1 : dataLe false id x y = true) (h2 : dataLe false id y x = true) : keyToks x = keyToks y := by
  have e1 : (!(listOrd itemOrd).blt (keyToks y) (keyToks x)) = true := h1
  have e2 : (!(listOrd itemOrd).blt (keyToks x) (keyToks y)) = true := h2
  rw [Bool.not_eq_true'] at e1 e2
  exact (listOrd itemOrd).total _ _ e2 e1
theorem eq_of_toks {x y : D} (ha : alike x y = true) (h : keyToks x = keyToks y) : PyData.eqv x y = true := by
  cases q : PyData.eqv x y with
  | true => rfl
  | false =>
    have t := (toks_eqv x y ha).2 q [] [.inl 0]
    rw [h] at t
    have irr : PyProof.Rows.lexLt itemOrd (keyToks y) (keyToks y) = false := (listOrd itemOrd).irrefl (keyToks y)
    rw [irr, lex_pre] at t
    cases t
theorem leP_anti {p q : List Int × Int} (h1 : leP p q = true) (h2 : leP q p = true) : p = q := by
  have e := eq_of_toks (alike_pr p q) (le_toks h1 h2)
  rw [eqv_pr] at e
  exact of_decide_eq_true e
theorem leL_anti {p q : List Int} (h1 : leL p q = true) (h2 : leL q p = true) : p = q := by
  have e := eq_of_toks (alike_lot p q) (le_toks h1 h2)
  rw [eqv_lot] at e
  exact of_decide_eq_true e
theorem leP_key {p q : List Int × Int} (h : leL p.1 q.1 = true) (hn : p.1 ≠ q.1) : leP p q = true := by
  have h' : (!dataLt (lotD q.1) (lotD p.1)) = true := h
  show (!dataLt (prD q) (prD p)) = true
  unfold prD
  rw [dataLt_pair (alike_lot _ _) (by rw [alike]), eqv_lot, decide_eq_false (fun z => hn z.symm)]
  exact h'
theorem sort_of_perm {α : Type} {le : α → α → Bool} (ht : TotalLe le) (ha : ∀ a b, le a b = true → le b a = true → a = b) {l m : List α} (hp : l.Perm m) : l.mergeSort le = m.mergeSort le :=
  List.Perm.eq_of_pairwise (le := fun a b => le a b = true) (fun a b _ _ => ha a b) (sort_pairwise ht l) (sort_pairwise ht m) (((List.mergeSort_perm l le).trans hp).trans (List.mergeSort_perm m le).symm)
end W2
namespace W2
open PySem PySem.Spec PyProof.Rows L2 PySem.W
/-- a loop whose state grows by at most w x at x -/
theorem for_foldW {S α : Type} (e : α → D) (I : S → En → Prop) (f : S → α → S) (c : S → Nat) (wt : α → Nat) (hc : ∀ s x, c (f s x) ≤ c s + wt x) {B : Nat} {g : WG} {body : WS} {W : WEnds} : ∀ (xs : List α) (s : S) (η : En), I s η → c s + (xs.map wt).sum ≤ B →
    (∀ x ∈ xs, ∀ s η, I s η → c s + wt x ≤ B → ∀ Kc : En → Prop, (∀ η', I (f s x) η' → Kc η') → g (e x) η fun η1 => body { nx := Kc, rt := W.rt, bk := W.nx, ct := Kc } η1) →
    (∀ η', I (xs.foldl f s) η' → W.nx η') → forGo g body W (xs.map e) η
  | [], s, η, hi, _, _, hend => hend η hi
  | x :: r, s, η, hi, hB, h, hend => by
    rw [List.map_cons, List.sum_cons] at hB
    have h1 := hc s x
    exact h x List.mem_cons_self s η hi (by omega) _ fun η' hi' => for_foldW e I f c wt hc r (f s x) η' hi' (by omega) (fun y hy => h y (List.mem_cons_of_mem _ hy)) hend
/-! ### ints -/
def sortI (l : List Int) : List Int := l.mergeSort fun a b => decide (a ≤ b)
theorem sortD_int (l : List Int) : sortD (l.map .int) = (sortI l).map .int := by
  unfold sortD sortI
  exact (sort_maps (r := fun a b : Int => decide (a ≤ b)) (s := dataLe false id) PyData.int fun a _ b _ => (congrFun (congrFun (dataLe_int (fun x : Int => x)) a) b).symm).symm
theorem sortOk_int (l : List Int) : sortOk (l.map .int) = true := by
  unfold sortOk
  rw [Bool.and_eq_true, Bool.and_eq_true]
  refine ⟨⟨?_, ?_⟩, ?_⟩
  · rw [List.all_eq_true]
    intro d hd
    rw [List.all_eq_true]
    intro d' hd'
    obtain ⟨a, _, rfl⟩ := List.mem_map.mp hd
    obtain ⟨b, _, rfl⟩ := List.mem_map.mp hd'
    rw [alike]
  · rw [Bool.or_eq_true]
    refine .inr ?_
    rw [List.all_eq_true]
    intro d hd
    obtain ⟨a, _, rfl⟩ := List.mem_map.mp hd
    rfl
  · rw [List.all_eq_true]
    intro d hd
    obtain ⟨a, _, rfl⟩ := List.mem_map.mp hd
    exact decide_eq_true (Nat.zero_le _)
theorem lay_ints (l : List Int) : PyData.canLayAll0 (l.map .int) = true := layAll_map (e := PyData.int) (fun _ => rfl) l
theorem any_int (l : List Int) (x : Int) : (l.map PyData.int).any (fun z => PyData.eqv z (.int x)) = decide (x ∈ l) := by
  rw [List.any_map]
  induction l with
  | nil => simp
  | cons y r ih =>
    rw [List.any_cons, ih]
    show ((y == x) || _) = _
    by_cases e : y = x
    · subst e; simp
    · rw [beq_eq_false_iff_ne.mpr e, Bool.false_or]
      by_cases h : x ∈ r
      · rw [decide_eq_true h, decide_eq_true (List.mem_cons_of_mem _ h)]
      · rw [decide_eq_false h, decide_eq_false (fun z => (List.mem_cons.mp z).elim (fun q => e q.symm) h)]
theorem in_lot {neg : Bool} {x : Int} {l : List Int} {Q : D → Prop} (h : Q (.bool (if neg then !decide (x ∈ l) else decide (x ∈ l)))) : gInA neg (.int x) (lotD l) Q := by
  refine ⟨rfl, shaped_lot l, ?_⟩
  rw [any_int]
  exact h
theorem filterMap_some {α β : Type} (p : α → Bool) (f : α → β) : ∀ (l : List α), l.filterMap (fun x => if p x = true then some (f x) else none) = (l.filter p).map f
  | [] => rfl
  | x :: r => by
    rw [List.filterMap_cons, List.filter_cons, filterMap_some p f r]
    cases h : p x
    · rfl
    · rfl
end W2

set_option Elab.async false
set_option linter.all false
set_option maxRecDepth 100000
/-! W2Z: numbers at lots: what stands at a key, what is told. -/
namespace W2
open PySem PySem.Spec PyProof.Rows L2 PySem.W

abbrev LI := List Int × Int
def val (m : List LI) (k : List Int) : Int := ((m.find? fun p => decide (p.1 = k)).map (·.2)).getD 0
def put (m : List LI) (k : List Int) (v : Int) : List LI := if (m.any fun p => decide (p.1 = k)) = true then m.map (fun p => if p.1 = k then (p.1, v) else p) else m ++ [(k, v)]
def Keys (m : List LI) : Prop := (m.map (·.1)).Nodup
theorem keyOk_lot (l : List Int) : keyOk (lotD l) = true := by
  show (l.map PyData.int).all flatKey = true
  rw [List.all_map, List.all_eq_true]
  intro _ _; rfl
theorem kindOk_mp (m : List LI) (k : List Int) : kindOk (m.map mpE) (lotD k) = true := by
  unfold kindOk
  rw [List.all_map, List.all_eq_true]
  intro _ _; rfl
theorem dGet_mp (k : List Int) : ∀ (m : List LI), dGet (m.map mpE) (lotD k) = (m.find? fun p => decide (p.1 = k)).map fun p => .int p.2
  | [] => rfl
  | p :: r => by
    have ih := dGet_mp k r
    unfold dGet at ih ⊢
    rw [List.map_cons, List.find?_cons, List.find?_cons, show PyData.eqv (mpE p).1 (lotD k) = decide (p.1 = k) from eqv_lot p.1 k]
    by_cases e : p.1 = k
    · rw [decide_eq_true e]; rfl
    · rw [decide_eq_false e]; exact ih
theorem dGet_val (m : List LI) (k : List Int) : (dGet (m.map mpE) (lotD k)).getD (.int 0) = .int (val m k) := by
  rw [dGet_mp]
  unfold val
  cases m.find? fun p => decide (p.1 = k) <;> rfl
theorem dPut_mp (m : List LI) (k : List Int) (v : Int) : dPut (m.map mpE) (lotD k) (.int v) = (put m k v).map mpE := by
  unfold dPut put
  have e1 : ((m.map mpE).any fun e => PyData.eqv e.1 (lotD k)) = m.any fun p => decide (p.1 = k) := by
    rw [List.any_map]
    congr 1
    funext p
    exact eqv_lot p.1 k
  rw [e1]
  by_cases c : (m.any fun p => decide (p.1 = k)) = true
  · rw [if_pos c, if_pos c, List.map_map, List.map_map]
    refine List.map_congr_left fun p _ => ?_
    show (if PyData.eqv (lotD p.1) (lotD k) = true then (lotD p.1, PyData.int v) else mpE p) = mpE (if p.1 = k then (p.1, v) else p)
    rw [eqv_lot]
    by_cases e : p.1 = k
    · rw [decide_eq_true e, if_pos rfl, if_pos e]; rfl
    · rw [decide_eq_false e, if_neg Bool.false_ne_true, if_neg e]
  · rw [if_neg c, if_neg c, List.map_append]; rfl
theorem val_nil (k : List Int) : val [] k = 0 := rfl
theorem val_cons (p : LI) (r : List LI) (k : List Int) : val (p :: r) k = if p.1 = k then p.2 else val r k := by
  unfold val
  rw [List.find?_cons]
  by_cases e : p.1 = k
  · rw [decide_eq_true e, if_pos e]; rfl
  · rw [decide_eq_false e, if_neg e]
theorem val_none {k : List Int} : ∀ {m : List LI}, k ∉ m.map (·.1) → val m k = 0
  | [], _ => rfl
  | p :: r, h => by
    rw [val_cons, if_neg (fun z => h (by rw [← z]; exact List.mem_cons_self)), val_none fun z => h (List.mem_cons_of_mem _ z)]
theorem val_mem : ∀ {m : List LI}, Keys m → ∀ {p : LI}, p ∈ m → val m p.1 = p.2
  | q :: r, h, p, hp => by
    have h' := List.nodup_cons.mp (show ((q :: r).map (·.1)).Nodup from h)
    rw [val_cons]
    rcases List.mem_cons.mp hp with e | hp
    · subst e; rw [if_pos rfl]
    · rw [if_neg (fun z => h'.1 (by show q.1 ∈ _; rw [z]; exact List.mem_map_of_mem hp))]
      exact val_mem h'.2 hp
theorem mem_val : ∀ {m : List LI} {k : List Int}, val m k ≠ 0 → (k, val m k) ∈ m
  | [], _, h => absurd rfl h
  | q :: r, k, h => by
    rw [val_cons] at h ⊢
    by_cases e : q.1 = k
    · rw [if_pos e, ← e]; exact List.mem_cons_self
    · rw [if_neg e] at h ⊢
      exact List.mem_cons_of_mem _ (mem_val h)
theorem any_key {m : List LI} {k : List Int} : (m.any fun p => decide (p.1 = k)) = true ↔ k ∈ m.map (·.1) := by
  rw [List.any_eq_true, List.mem_map]
  constructor
  · rintro ⟨p, hp, e⟩; exact ⟨p, hp, of_decide_eq_true e⟩
  · rintro ⟨p, hp, e⟩; exact ⟨p, hp, decide_eq_true e⟩
theorem over_keys (k : List Int) (v : Int) : ∀ (m : List LI), (m.map fun p => if p.1 = k then (p.1, v) else p).map (·.1) = m.map (·.1)
  | [] => rfl
  | p :: r => by
    rw [List.map_cons, List.map_cons, List.map_cons, over_keys k v r]
    by_cases e : p.1 = k
    · rw [if_pos e]
    · rw [if_neg e]
theorem val_over (k : List Int) (v : Int) (k' : List Int) : ∀ (m : List LI), k ∈ m.map (·.1) → val (m.map fun p => if p.1 = k then (p.1, v) else p) k' = if k' = k then v else val m k'
  | [], h => by cases h
  | p :: r, h => by
    rw [List.map_cons, val_cons, val_cons]
    by_cases e : p.1 = k
    · rw [if_pos e]
      show (if p.1 = k' then v else _) = _
      by_cases e' : k' = k
      · rw [if_pos (e.trans e'.symm), if_pos e']
      · have ne : p.1 ≠ k' := fun z => e' (z.symm.trans e)
        rw [if_neg ne, if_neg e', if_neg ne]
        by_cases hr : k ∈ r.map (·.1)
        · rw [val_over k v k' r hr, if_neg e']
        · have : (r.map fun p => if p.1 = k then (p.1, v) else p) = r := by
            have t : ∀ q ∈ r, (if q.1 = k then (q.1, v) else q) = q := fun q hq => if_neg fun z => hr (by rw [← z]; exact List.mem_map_of_mem hq)
            rw [List.map_congr_left t, List.map_id']
          rw [this]
    · rw [if_neg e]
      have hr : k ∈ r.map (·.1) := by
        rcases List.mem_cons.mp h with z | z
        · exact absurd z.symm e
        · exact z
      by_cases c : p.1 = k'
      · rw [if_pos c, if_pos c, if_neg (fun z => e (c.trans z))]
      · rw [if_neg c, if_neg c]
        exact val_over k v k' r hr
theorem val_snoc (k : List Int) (v : Int) (k' : List Int) : ∀ (m : List LI), k ∉ m.map (·.1) → val (m ++ [(k, v)]) k' = if k' = k then v else val m k'
  | [], _ => by
    rw [List.nil_append, val_cons]
    by_cases e : k = k'
    · rw [if_pos e, if_pos e.symm]
    · rw [if_neg e, if_neg (fun z => e z.symm)]
  | p :: r, h => by
    rw [List.cons_append, val_cons, val_cons]
    have hk : p.1 ≠ k := fun z => h (by rw [← z]; exact List.mem_cons_self)
    by_cases c : p.1 = k'
    · rw [if_pos c, if_pos c, if_neg (fun z => hk (c.trans z))]
    · rw [if_neg c, if_neg c]
      exact val_snoc k v k' r fun z => h (List.mem_cons_of_mem _ z)
theorem val_put (m : List LI) (k : List Int) (v : Int) (k' : List Int) : val (put m k v) k' = if k' = k then v else val m k' := by
  unfold put
  by_cases c : (m.any fun p => decide (p.1 = k)) = true
  · rw [if_pos c]; exact val_over k v k' m (any_key.mp c)
  · rw [if_neg c]; exact val_snoc k v k' m fun z => c (any_key.mpr z)
theorem put_keys {m : List LI} {k : List Int} {v : Int} (h : Keys m) : Keys (put m k v) := by
  unfold put Keys
  by_cases c : (m.any fun p => decide (p.1 = k)) = true
  · rw [if_pos c, over_keys]; exact h
  · rw [if_neg c, List.map_append]
    refine List.nodup_append.mpr ⟨h, by simp, fun a ha b hb => ?_⟩
    have e : b = k := by simpa using hb
    subst e
    intro z
    subst z
    exact c (any_key.mpr ha)
theorem put_length (m : List LI) (k : List Int) (v : Int) : (put m k v).length ≤ m.length + 1 := by
  unfold put
  split
  · rw [List.length_map]; omega
  · rw [List.length_append]; exact Nat.le_refl _

/-! ### what is told -/
def nz (m : List LI) : List LI := m.filter fun p => decide (p.2 ≠ 0)
def told (m : List LI) : List LI := (nz m).mergeSort leP
theorem Keys.nodup : ∀ {m : List LI}, Keys m → m.Nodup
  | [], _ => List.nodup_nil
  | p :: r, h => by
    have h' := List.nodup_cons.mp (show ((p :: r).map (·.1)).Nodup from h)
    exact List.nodup_cons.mpr ⟨fun z => h'.1 (List.mem_map_of_mem z), Keys.nodup h'.2⟩
theorem Keys.filter {m : List LI} (h : Keys m) (f : LI → Bool) : Keys (m.filter f) := by
  unfold Keys at h ⊢
  exact List.Nodup.sublist (List.Sublist.map _ (List.filter_sublist)) h
theorem Keys.perm {m n : List LI} (h : Keys m) (p : m.Perm n) : Keys n := (p.map _).nodup_iff.mp h
theorem told_perm (m : List LI) : (told m).Perm (nz m) := List.mergeSort_perm _ _
theorem told_keys {m : List LI} (h : Keys m) : Keys (told m) := (h.filter _).perm (told_perm m).symm
theorem mem_told {m : List LI} {p : LI} : p ∈ told m ↔ p ∈ m ∧ p.2 ≠ 0 := by
  rw [(told_perm m).mem_iff]
  unfold nz
  rw [List.mem_filter, decide_eq_true_iff]
theorem val_told {m : List LI} (h : Keys m) (k : List Int) : val (told m) k = val m k := by
  by_cases c : val m k = 0
  · rw [c]
    by_cases d : val (told m) k = 0
    · exact d
    · have h1 := mem_told.mp (mem_val d)
      have h2 := val_mem h h1.1
      exact absurd (h2.symm.trans c) h1.2
  · have h1 := mem_val c
    exact val_mem (told_keys h) (mem_told.mpr ⟨h1, c⟩)
theorem told_ext {m n : List LI} (hm : Keys m) (hn : Keys n) (h : ∀ k, val m k = val n k) : told m = told n := by
  have go : ∀ {a b : List LI}, Keys a → Keys b → (∀ k, val a k = val b k) → ∀ p, p ∈ nz a → p ∈ nz b := fun {a b} ha hb e p hp => by
    unfold nz at hp ⊢
    rw [List.mem_filter, decide_eq_true_iff] at hp ⊢
    have e1 := val_mem ha hp.1
    rw [e] at e1
    have e2 : val b p.1 ≠ 0 := by rw [e1]; exact hp.2
    have e3 := mem_val e2
    rw [e1] at e3
    exact ⟨e3, hp.2⟩
  have p : (nz m).Perm (nz n) := (List.perm_ext_iff_of_nodup (hm.filter _).nodup (hn.filter _).nodup).mpr fun p => ⟨go hm hn h p, go hn hm (fun k => (h k).symm) p⟩
  exact sort_of_perm leP_total (fun a b => leP_anti) p
/-- as the laws tell it: by the sorted keys -/
def ltold (m : List LI) : List LI := ((m.map (·.1)).mergeSort leL).filterMap fun k => if val m k ≠ 0 then some (k, val m k) else none
theorem nz_keys {m : List LI} : ∀ {r : List LI}, (∀ p ∈ r, val m p.1 = p.2) → (r.map (·.1)).filterMap (fun k => if val m k ≠ 0 then some (k, val m k) else none) = nz r
  | [], _ => rfl
  | p :: r, h => by
    have e := h p List.mem_cons_self
    have ih := nz_keys fun q hq => h q (List.mem_cons_of_mem _ hq)
    unfold nz at ih ⊢
    rw [List.map_cons, List.filterMap_cons, List.filter_cons, e]
    by_cases c : p.2 = 0
    · rw [if_neg (fun z => z c), decide_eq_false (fun z => z c)]
      exact ih
    · rw [if_pos c, decide_eq_true c, if_pos rfl, ← ih]
theorem ltold_eq {m : List LI} (h : Keys m) : ltold m = told m := by
  refine List.Perm.eq_of_pairwise (le := fun a b => leP a b = true) (fun a b _ _ => leP_anti) ?_ (sort_pairwise leP_total _) ?_
  · unfold ltold
    have nd : ((m.map (·.1)).mergeSort leL).Nodup := (List.mergeSort_perm _ _).nodup_iff.mpr h
    have pw : ((m.map (·.1)).mergeSort leL).Pairwise fun a b => leL a b = true ∧ a ≠ b := (sort_pairwise leL_total _).and (List.nodup_iff_pairwise_ne.mp nd)
    rw [List.pairwise_filterMap]
    refine pw.imp fun {a b} hab x hx y hy => ?_
    have ex : x = (a, val m a) := by
      by_cases c : val m a ≠ 0
      · rw [if_pos c] at hx; exact (Option.some.inj hx).symm
      · rw [if_neg c] at hx; cases hx
    have ey : y = (b, val m b) := by
      by_cases c : val m b ≠ 0
      · rw [if_pos c] at hy; exact (Option.some.inj hy).symm
      · rw [if_neg c] at hy; cases hy
    subst ex ey
    exact leP_key hab.1 hab.2
  · refine List.Perm.trans ?_ (told_perm m).symm
    unfold ltold
    refine ((List.mergeSort_perm _ _).filterMap _).trans ?_
    rw [nz_keys fun p hp => val_mem h hp]
end W2

set_option Elab.async false
set_option linter.all false
set_option maxRecDepth 100000
/-! W2AA: data tools shared by the laws: loops over a range, frames, what is shown, sorted ints. -/
namespace W2
open PySem PySem.Spec PyProof.Rows L2 PySem.W
theorem for_ix (e : Nat → W2.D) (I : Nat → En → Prop) {g : WG} {body : WS} {W : WEnds} {n : Nat} (h : ∀ i, i < n → ∀ η, I i η → ∀ Kc : En → Prop, (∀ η', I (i + 1) η' → Kc η') → g (e i) η fun η1 => body { nx := Kc, rt := W.rt, bk := W.nx, ct := Kc } η1)
    (hend : ∀ η, I n η → W.nx η) {η : En} (h0 : I 0 η) : forGo g body W ((List.range n).map e) η := by
  rw [List.range_eq_range']
  have go : ∀ (m i : Nat) (η : En), i + m = n → I i η → forGo g body W ((List.range' i m).map e) η := by
    intro m
    induction m with
    | zero =>
      intro i η e hi
      have : i = n := by omega
      subst this
      exact hend η hi
    | succ m ih =>
      intro i η e hi
      exact h i (by omega) η hi _ fun η' hi' => ih (i + 1) η' (by omega) hi'
  exact go n 0 η (by omega) h0
def rdD (p : Int × Int) : W2.D := .tuple [.int p.1, .int p.2]
def frD (n : Int) (roads : List (Int × Int)) : W2.D := .tuple [.int n, .tuple (roads.map rdD)]
theorem filterMap_nil {α β : Type} {f : α → Option β} : ∀ {l : List α}, l.filterMap f = [] ↔ ∀ x ∈ l, f x = none
  | [] => by simp
  | x :: r => by
    rw [List.filterMap_cons]
    cases h : f x with
    | none =>
      show r.filterMap f = [] ↔ _
      rw [filterMap_nil]
      simp [h]
    | some y =>
      show y :: r.filterMap f = [] ↔ _
      simp [h]
theorem fold_len {α : Type} {f : List LI → α → List LI} {n : Nat} (h : ∀ m x, (f m x).length ≤ m.length + n) : ∀ (l : List α) (m : List LI), (l.foldl f m).length ≤ m.length + l.length * n
  | [], m => by simp
  | x :: r, m => by
    have h1 := fold_len h r (f m x)
    have h2 := h m x
    rw [List.foldl_cons, List.length_cons, Nat.succ_mul]
    omega
theorem sum_const {α : Type} (n : Nat) : ∀ (l : List α), (l.map fun _ => n).sum = l.length * n
  | [] => by simp
  | _ :: r => by rw [List.map_cons, List.sum_cons, sum_const n r, List.length_cons, Nat.succ_mul]; omega
theorem le_line {n : Nat} (h : n ≤ 1000000) : n ≤ sizeLine := Nat.le_trans h (by rw [sizeLine_eq]; decide)
theorem sum_one {α : Type} : ∀ (l : List α), (l.map fun _ => 1).sum = l.length
  | [] => rfl
  | _ :: r => by rw [List.map_cons, List.sum_cons, sum_one r, List.length_cons]; omega
theorem perm_of_map {α β : Type} {f : α → β} {l1 l2 : List β} (h : l1.Perm l2) : ∀ (s : List α), l2 = s.map f → ∃ t : List α, t.Perm s ∧ l1 = t.map f := by
  induction h with
  | nil => intro s e; cases s with | nil => exact ⟨[], .refl _, rfl⟩ | cons _ _ => cases e
  | cons x _ ih =>
    intro s e
    cases s with
    | nil => cases e
    | cons a r =>
      rw [List.map_cons] at e
      obtain ⟨e1, e2⟩ := List.cons.inj e
      obtain ⟨t, h1, h2⟩ := ih r e2
      exact ⟨a :: t, h1.cons a, by rw [List.map_cons, ← h2, e1]⟩
  | swap x y l =>
    intro s e
    cases s with
    | nil => cases e
    | cons a r =>
      cases r with
      | nil => rw [List.map_cons, List.map_nil] at e; cases (List.cons.inj e).2
      | cons b r =>
        rw [List.map_cons, List.map_cons] at e
        obtain ⟨e1, e2⟩ := List.cons.inj e
        obtain ⟨e3, e4⟩ := List.cons.inj e2
        exact ⟨b :: a :: r, .swap _ _ _, by rw [List.map_cons, List.map_cons, ← e1, ← e3, ← e4]⟩
  | trans _ _ ih1 ih2 =>
    intro s e
    obtain ⟨t, h1, h2⟩ := ih2 s e
    obtain ⟨u, h3, h4⟩ := ih1 t h2
    exact ⟨u, h3.trans h1, h4⟩
def Good (n : Int) (s : List (Int × Int)) : Prop := ∀ p ∈ s, (0 ≤ p.1 ∧ p.1 < n) ∧ 0 ≤ p.2 ∧ p.2 < n
theorem int_at {l : List Int} {i : Int} (h0 : 0 ≤ i) (h1 : i < l.length) : ∃ x ∈ l, L2.atI (l.map PyData.int) i = some (.int x) := by
  have hi : i.toNat < l.length := by omega
  refine ⟨l[i.toNat], List.getElem_mem _, ?_⟩
  unfold L2.atI ixN
  rw [List.length_map, if_pos h0, if_pos h1]
  show (l.map PyData.int)[i.toNat]? = _
  rw [List.getElem?_map, List.getElem?_eq_getElem hi]; rfl
theorem flip_out {n : Int} : ∀ {t : List (Int × Int)} {os : List (Option W2.D)}, Paired (fun p o => o = some (rdD p) ∨ o = some (rdD (p.2, p.1))) t os → Good n t → ∃ u : List (Int × Int), os.filterMap id = u.map rdD ∧ u.length = t.length ∧ Good n u
  | _, _, .nil, _ => ⟨[], rfl, rfl, fun _ h => by cases h⟩
  | _, _, .cons (a := p) h r, hg => by
    obtain ⟨u, h1, h2, h3⟩ := flip_out r fun q hq => hg q (List.mem_cons_of_mem _ hq)
    have hp := hg p List.mem_cons_self
    rcases h with rfl | rfl
    · refine ⟨p :: u, ?_, by rw [List.length_cons, List.length_cons, h2], fun q hq => ?_⟩
      · rw [List.filterMap_cons]; show rdD p :: _ = _; rw [h1, List.map_cons]
      · rcases List.mem_cons.mp hq with e | e
        · subst e; exact hp
        · exact h3 q e
    · refine ⟨(p.2, p.1) :: u, ?_, by rw [List.length_cons, List.length_cons, h2], fun q hq => ?_⟩
      · rw [List.filterMap_cons]; show rdD (p.2, p.1) :: _ = _; rw [h1, List.map_cons]
      · rcases List.mem_cons.mp hq with e | e
        · subst e; exact ⟨hp.2, hp.1⟩
        · exact h3 q e
theorem good_snoc {n : Int} {s : List (Int × Int)} {a b : Int} (h : Good n s) (ha : 0 ≤ a ∧ a < n) (hb : 0 ≤ b ∧ b < n) : Good n (s ++ [(a, b)]) := fun p hp => by
  rcases List.mem_append.mp hp with e | e
  · exact h p e
  · have : p = (a, b) := by simpa using e
    subst this
    exact ⟨ha, hb⟩
theorem rd_snoc (s : List (Int × Int)) (a b : Int) : s.map rdD ++ [.tuple [.int a, .int b]] = (s ++ [(a, b)]).map rdD := by rw [List.map_append]; rfl
def SS (l : List Int) : Prop := l.Pairwise (· < ·)
theorem SS.nodup {l : List Int} (h : SS l) : l.Nodup := List.nodup_iff_pairwise_ne.mpr (h.imp fun h => Int.ne_of_lt h)
theorem SS.le {l : List Int} (h : SS l) : l.Pairwise (· ≤ ·) := h.imp fun h => Int.le_of_lt h
theorem ss_unique {a b : List Int} (ha : SS a) (hb : SS b) (h : a.Perm b) : a = b :=
  List.Perm.eq_of_pairwise (le := (· ≤ ·)) (fun _ _ _ _ h1 h2 => Int.le_antisymm h1 h2) ha.le hb.le h
theorem sortI_perm (l : List Int) : (W2.sortI l).Perm l := List.mergeSort_perm _ _
theorem sortI_le (l : List Int) : (W2.sortI l).Pairwise (· ≤ ·) := by
  have h := List.pairwise_mergeSort (le := fun a b : Int => decide (a ≤ b)) (fun a b c h1 h2 => decide_eq_true (Int.le_trans (of_decide_eq_true h1) (of_decide_eq_true h2))) (fun a b => by
    rcases Int.le_total a b with h | h
    · simp [h]
    · simp [h]) l
  exact h.imp fun h => of_decide_eq_true h
theorem sortI_ss {l : List Int} (h : l.Nodup) : SS (W2.sortI l) := by
  have h1 := sortI_le l
  have h2 : (W2.sortI l).Nodup := (sortI_perm l).nodup_iff.mpr h
  exact (h1.and (List.nodup_iff_pairwise_ne.mp h2)).imp fun h => by omega
theorem nodup_le {α : Type} [BEq α] [LawfulBEq α] : ∀ {l m : List α}, l.Nodup → (∀ x ∈ l, x ∈ m) → l.length ≤ m.length
  | [], _, _, _ => Nat.zero_le _
  | x :: r, m, h, hs => by
    have h' := List.nodup_cons.mp h
    have hx := hs x List.mem_cons_self
    have ih := nodup_le (l := r) (m := m.erase x) h'.2 fun y hy => by
      refine (List.mem_erase_of_ne ?_).mpr (hs y (List.mem_cons_of_mem _ hy))
      intro z; subst z; exact h'.1 hy
    rw [List.length_erase_of_mem hx] at ih
    have pos : 0 < m.length := List.length_pos_of_mem hx
    rw [List.length_cons]
    omega
theorem sh_tuple (xs : List W2.D) : (PyData.tuple xs).shown.length ≤ 3 + piled (PyData.shownAll xs) := by
  show (tupleText (PyData.shownAll xs)).length ≤ _
  unfold tupleText
  rw [strLen_append, strLen_append]
  have e1 : ((("(" : String) : Str)).length = 1 := rfl
  have e3 : (((if (PyData.shownAll xs).length == 1 then ",)" else ")" : String) : Str)).length ≤ 2 := by split <;> decide
  rw [e1]
  by_cases h : PyData.shownAll xs = []
  · rw [h] at e3 ⊢
    have : (Str.join ", " ([] : List Str)).length = 0 := rfl
    rw [this]
    omega
  · have := join_length_add _ h
    omega
theorem sh_list (xs : List W2.D) : (PyData.list xs).shown.length ≤ 2 + piled (PyData.shownAll xs) := by
  show (listText (PyData.shownAll xs)).length ≤ _
  unfold listText
  rw [strLen_append]
  have e1 : ((("]" : String) : Str)).length = 1 := rfl
  rw [e1]
  cases PyData.shownAll xs with
  | nil => decide
  | cons t r =>
    show (textFrom 1 ("[" ++ "" ++ t) r).length + 1 ≤ _
    rw [textFrom_length_pos r 1 _ (by decide), piled_cons, strLen_append]
    have e2 : (("[" : Str) ++ ((("" : String) : Str))).length = 1 := rfl
    rw [e2]
    omega
theorem piled_map {α : Type} {e : α → W2.D} {B : Nat} : ∀ {l : List α}, (∀ x ∈ l, (e x).shown.length ≤ B) → piled (PyData.shownAll (l.map e)) ≤ l.length * (B + 2)
  | [], _ => Nat.zero_le _
  | x :: r, h => by
    show piled ((e x).shown :: PyData.shownAll (r.map e)) ≤ _
    rw [piled_cons, List.length_cons, Nat.succ_mul]
    have h1 := h x List.mem_cons_self
    have h2 := piled_map (l := r) fun y hy => h y (List.mem_cons_of_mem _ hy)
    omega
theorem sh_int {i : Int} {B : Nat} (h : i.natAbs ≤ B) : (PyData.int i).shown.length ≤ B + 2 := by
  have := len_str_of_int i
  show (Str.ofString (toString i)).length ≤ _
  omega
theorem log_small {n : Nat} (h : n ≤ 1000000) : n.log2 < 1000 := by
  by_cases c : n = 0
  · subst c; decide
  · refine (Nat.log2_lt c).mpr (Nat.lt_of_le_of_lt h ?_)
    exact Nat.lt_of_lt_of_le (show 1000000 < 2 ^ 20 by decide) (Nat.pow_le_pow_right (by decide) (show 20 ≤ 1000 by decide))
theorem showAll_map {α : Type} {e : α → W2.D} : ∀ {l : List α}, (∀ x ∈ l, (e x).showable = true) → PyData.showableAll (l.map e) = true
  | [], _ => rfl
  | x :: r, h => by
    show ((e x).showable && PyData.showableAll (r.map e)) = true
    rw [h x List.mem_cons_self, showAll_map fun y hy => h y (List.mem_cons_of_mem _ hy)]; rfl
theorem show_int {i : Int} (h : i.natAbs ≤ 1000000) : (PyData.int i).showable = true := by
  show decide (i.natAbs.log2 < 1920) = true
  have := log_small h
  exact decide_eq_true (by omega)
def LotOk (l : List Int) : Prop := l.length ≤ 10 ∧ ∀ r ∈ l, r.natAbs ≤ 10
theorem sh_lot {l : List Int} (h : LotOk l) : (lotD l).shown.length ≤ 143 := by
  have h1 := sh_tuple (l.map PyData.int)
  have h2 := piled_map (e := PyData.int) (B := 12) (l := l) fun r hr => sh_int (h.2 r hr)
  have h3 := Nat.mul_le_mul_right (12 + 2) h.1
  show (PyData.tuple _).shown.length ≤ _
  omega
theorem show_lot {l : List Int} (h : LotOk l) : (lotD l).showable = true := showAll_map (e := PyData.int) fun r hr => show_int (Nat.le_trans (h.2 r hr) (by decide))
theorem sh_pr {p : LI} {B : Nat} (h : LotOk p.1) (hb : p.2.natAbs ≤ B) : (W2.prD p).shown.length ≤ B + 152 := by
  have h1 := sh_tuple [lotD p.1, .int p.2]
  have h2 : piled (PyData.shownAll [lotD p.1, .int p.2]) = ((lotD p.1).shown.length + 2) + (((PyData.int p.2).shown.length + 2) + 0) := by
    show piled [_, _] = _
    rw [piled_cons, piled_cons]; rfl
  have h3 := sh_lot h
  have h4 := sh_int hb
  show (PyData.tuple _).shown.length ≤ _
  omega
theorem show_pr {p : LI} (h : LotOk p.1) (hb : p.2.natAbs ≤ 1000000) : (W2.prD p).showable = true := by
  show ((lotD p.1).showable && ((PyData.int p.2).showable && true)) = true
  rw [show_lot h, show_int hb]; rfl
theorem reprOk_of {d : W2.D} (h1 : d.canLay0 = true) (h2 : d.showable = true) (h3 : d.depth ≤ 64) (h4 : d.shown.length ≤ 16777216) : reprOk d = true := by
  unfold reprOk
  rw [h1, h2, decide_eq_true h3, decide_eq_true h4]; rfl
theorem repr_int {i : Int} (h : i.natAbs ≤ 1000000) : reprOk (.int i) = true := reprOk_of rfl (show_int h) (Nat.zero_le _) (by have := sh_int h; omega)
theorem repr_frame {n : Int} {roads : List (Int × Int)} (hn : n.natAbs ≤ 10) (hl : roads.length ≤ 100) (h : ∀ p ∈ roads, p.1.natAbs ≤ 10 ∧ p.2.natAbs ≤ 10) : reprOk (frD n roads) = true := by
  have lay_rd : ∀ p : Int × Int, (rdD p).canLay0 = true := fun _ => rfl
  have d_rd : ∀ p : Int × Int, (rdD p).depth ≤ 1 := fun _ => Nat.le_refl _
  refine reprOk_of ?_ ?_ ?_ ?_
  · show (true && (PyData.canLayAll0 (roads.map rdD) && true)) = true
    rw [layAll_map lay_rd]; rfl
  · show ((PyData.int n).showable && (PyData.showableAll (roads.map rdD) && true)) = true
    rw [show_int (Nat.le_trans hn (by decide)), showAll_map (e := rdD) fun p hp => ?_]
    · rfl
    · show ((PyData.int p.1).showable && ((PyData.int p.2).showable && true)) = true
      rw [show_int (Nat.le_trans (h p hp).1 (by decide)), show_int (Nat.le_trans (h p hp).2 (by decide))]; rfl
  · show max 0 (max (PyData.depthAll (roads.map rdD) + 1) 0) + 1 ≤ 64
    have := depthAll_map d_rd roads
    omega
  · have h1 := sh_tuple [.int n, .tuple (roads.map rdD)]
    have h2 : piled (PyData.shownAll [.int n, .tuple (roads.map rdD)]) = ((PyData.int n).shown.length + 2) + (((PyData.tuple (roads.map rdD)).shown.length + 2) + 0) := by
      show piled [_, _] = _
      rw [piled_cons, piled_cons]; rfl
    have h3 := sh_int hn
    have h4 := sh_tuple (roads.map rdD)
    have h5 := piled_map (e := rdD) (B := 31) (l := roads) fun p hp => by
      have a1 := sh_tuple [.int p.1, .int p.2]
      have a2 : piled (PyData.shownAll [.int p.1, .int p.2]) = ((PyData.int p.1).shown.length + 2) + (((PyData.int p.2).shown.length + 2) + 0) := by
        show piled [_, _] = _
        rw [piled_cons, piled_cons]; rfl
      have a3 := sh_int (h p hp).1
      have a4 := sh_int (h p hp).2
      show (PyData.tuple _).shown.length ≤ _
      omega
    have h6 := Nat.mul_le_mul_right (31 + 2) hl
    show (PyData.tuple _).shown.length ≤ _
    omega
theorem leL_is (p q : List Int) : leL p q = decide (p ≤ q) := by
  have h := congrFun (congrFun (dataLe_rows (fun x : List Int => x)) p) q
  rw [← h]
  rfl
theorem gNe_eq {x y : W2.D} {P : W2.D → Prop} (e : x = y) (h1 : eqOk y y = true) (h2 : PyData.eqv y y = true) (h : P (.bool false)) : gNe x y P := by
  subst e
  exact ⟨h1, by rw [h2]; exact h⟩
theorem gNe_str {x y : W2.D} {P : W2.D → Prop} (e : x = y) (h : P (.bool false)) : gNe (.str x.shown) (.str y.shown) P := by
  subst e
  exact gNe_eq rfl rfl (by show (x.shown == x.shown) = true; exact beq_self_eq_true _) h
theorem rangeD0 (n : Nat) : rangeD 0 n = (List.range n).map fun i : Nat => PyData.int (i : Int) := by
  unfold rangeD
  refine List.map_congr_left fun i _ => ?_
  rw [Int.zero_add]
theorem cutD_map {α : Type} (e : α → W2.D) (l : List α) (lo hi : Option Int) : ∃ l' : List α, W2.cutD (l.map e) lo hi = l'.map e ∧ (∀ x ∈ l', x ∈ l) ∧ l'.length ≤ l.length := by
  unfold W2.cutD
  rw [← List.map_drop, ← List.map_take]
  exact ⟨_, rfl, fun x hx => List.mem_of_mem_drop (List.mem_of_mem_take hx), by rw [List.length_take, List.length_drop]; omega⟩
end W2

set_option Elab.async false
set_option linter.all false
set_option maxRecDepth 100000
/-! W2AC: x <= y of ints or of tuples of ints. -/
namespace W2
open PySem PySem.Spec PyProof.Rows L2
/-- the answer of ns <= ms, tuples -/
def leTI (ns ms : List Int) : Bool := Ob.lexAt (fun j => decide (ns.getD j 0 = ms.getD j 0)) (fun j => decide (ns.getD j 0 ≤ ms.getD j 0)) (decide (ns.length ≤ ms.length)) 0 (min ns.length ms.length)
def gLeA : D → D → (D → Prop) → Prop
  | .tuple xs, .tuple ys, Q => ∃ ns ms : List Int, xs = ns.map .int ∧ ys = ms.map .int ∧ Q (.bool (leTI ns ms))
  | x, y, Q => gLeI x y Q
def rLeA (K : PySem.W.Frag) : R2 := fun x y H Q => rI0 (fun i j => .bl (decide (i ≤ j))) x y H Q ∨ rLeT K x y H Q
theorem op_leA {X : Cx} (K : PySem.W.Frag) (hK : X.K = K) (hu : X.A.units + 1 < cLine) : OpR X (compareOp .LtE) (rLeA K) := by
  subst hK
  exact OpR.or op_le (op_leT (by omega))
theorem rs_leA {K : PySem.W.Frag} : RSem K (rLeA K) gLeA := fun {sx F H x y dx dy Q R} b hx hy hg k => by
  have I0 : gLeI dx dy Q → rLeA K x y H R := fun h => .inl (rs_leI b hx hy h k)
  cases dx <;> first | exact I0 hg | skip
  cases dy <;> first | exact I0 hg | skip
  obtain ⟨ns, ms, rfl, rfl, q⟩ := hg
  obtain ⟨a, xs, rfl, h1, h2⟩ := hx.tupleH b.le
  obtain ⟨c, ys, rfl, h3, h4⟩ := hy.tupleH b.le
  obtain rfl := h2.intsV
  obtain rfl := h4.intsV
  exact .inr ⟨a, c, ns, ms, rfl, rfl, h1, h3, k.now b q (.bl _)⟩
end W2

set_option Elab.async false
set_option linter.all false
set_option maxRecDepth 100000
/-! W2AD: {k: v} with a tuple as its one key; a raise that is never met; a name of the module's top that holds an int. -/
namespace W2
open PySem PySem.Spec PyProof.Rows L2
section
variable {prog : Program} {w : World} {κ : Type} [DecidableEq κ] {knd : HeapKind prog w κ} {A : Around} {E : Value → Shared → Prop} {s : Shared}
theorem disp_keyed {env : Env} {keys : List (Option Expr)} {values : List Expr} {pos : Pos} {Q : Value → Shared → Prop} (room : knd.room A) (some : keys.all (·.isSome) = true) (same : keys.length = values.length) (ne : keys ≠ []) (few : keys.length ≤ 15)
    (h : wpAny (model prog w) A (evalPairs (pairTrees keys values env pos)) (fun vs t => ∃ ps, CarriesH knd t.heap vs ps ∧ t.heap.DictOfH knd s.heap.objs.size [] ∧
      ∀ g tk, g.DictOfH knd s.heap.objs.size (storedAllH [] ps) → Heap.SameBut s.heap.objs.size t.heap g → Q (.ref s.heap.objs.size) { t with heap := g, toks := tk }) E
      { s with heap := s.heap.push { cls := .type "dict", data := .dict #[] } }) : wpAny (model prog w) A (eval (.Dict keys values pos) env) Q E s := by
  have len := pairTrees_length keys values env pos some same
  have ne' : pairTrees keys values env pos ≠ [] := fun z => ne (List.length_eq_zero_iff.mp (by rw [← len, z]; rfl))
  have few' : (pairTrees keys values env pos).length ≤ 15 := by rw [len]; exact few
  rw [arm_eval_Dict, zip_pairTrees keys values env pos some same, dictDisplay_pairs _ ne' (by omega)]
  refine wpAny_bind (wpAny_standAt (wpAny_bind (wpAny_subDictH (knd := knd) (Q := fun d t => wpAny (model prog w) A (pure (Value.ref d)) Q E t) room few' ?_)))
  exact wpAny_mono h (fun vs t ⟨ps, c, m, q⟩ => ⟨ps, c, m, fun g tk x y => wpAny_pure (q g tk x y)⟩) fun _ _ z => z
end
/-- {k: v}, k a tuple of ints and texts -/
def tDispT (tk tv : TE) : TE := fun σ H Q => ∀ p, H p = none → tk σ (upd H p (.dT [])) fun x H1 => tv σ H1 fun y H2 => H2 p = some (.dT []) ∧ ∃ (ks : List Key) (b : Addr), x = .ref b ∧ H2 b = some (.tup (ks.map kV)) ∧ Q (.ref p) (upd H2 p (.dT [(ks, y)]))
section
variable {X : Cx} {pos : Pos} {k v : Expr} {tk tv : TE} {wk wv : WE}
theorem pe_dispT (hu : X.A.units + 1 < cLine) (hk : PE X k tk) (hv : PE X v tv) : PE X (.Dict [some k] [v] pos) (tDispT tk tv) := by
  refine ⟨fun pins s σ H Q I q => ?_⟩
  have hn := I.hok.fresh (Nat.le_refl s.heap.objs.size)
  have I1 := I.laid (a := s.heap.objs.size) (o := .dT []) (h' := s.heap.push { cls := .type "dict", data := .dict #[] }) (t' := s.toks) (fun _ _ q => Heap.get?_push_of_some _ q) (Nat.le_refl _) (dt_empty s.heap I.big)
  refine disp_keyed (knd := tupleKind (mixKind X.prog X.w)) (show X.A.units < cLine by omega) rfl rfl (fun z => nomatch z) (show 1 ≤ 15 by decide) ?_
  refine pairTrees_cons_walk (thn (hk.run pins _ σ _ _ I1 (q _ hn)) fun u s1 ⟨x, H1, I2, rx, q1⟩ => thn (hv.run pins s1 σ H1 _ I2 q1) fun w2 s2 ⟨y, H2, I3, ry, q2⟩ => pairTrees_nil_walk ?_)
  obtain ⟨hp, ks, b, rfl, hb, q3⟩ := q2
  cases rx
  obtain ⟨z, hd, xs, kt, dd⟩ := dt_of I3.hok hp
  cases kt
  refine ⟨[(ks, b, w2)], ⟨rfl, rfl, key_of I3.hok hb, trivial⟩, dd, fun g tok dd' hs => ⟨.ref s.heap.objs.size, _, ?_, rfl, q3⟩⟩
  obtain ⟨o, es, ep, h1, h2, h3, h4, h5, h6⟩ := id dd'
  have ne : b ≠ s.heap.objs.size := fun z => by rw [z, hp] at hb; cases hb
  exact d_write I3 (by rw [hp]; exact True.intro) hs ⟨o, h1⟩ ⟨by show 1 ≤ _; rw [sizeLine_eq]; decide, hd, [(ks, b, w2)], .cons ⟨rfl, by rw [upd_ne ne]; exact hb, ry⟩ .nil, o, es, ep, h1, h2, h3, h4, h6⟩
def wDispT (wk wv : WE) : WE := fun η Q => wk η fun k => wv η fun v => keyOk k = true ∧ (∃ ds, k = .tuple ds) ∧ Q (.dict [(k, v)])
theorem dd_dispT (hu : X.A.units + 1 < cLine) (hk : DE X k tk wk) (hv : DE X v tv wv) : DD X (.Dict [some k] [v] pos) (tDispT tk tv) (wDispT wk wv) :=
  ⟨pe_dispT hu hk.pe hv.pe, fun {sx H0 F0 F σ H η Q R} r hw kk p hp => by
    have e0 := Ext2.newF (o := .dT []) r.base hp
    have nx : ¬ inSx sx p := fun z => by obtain ⟨o, q⟩ := r.base.ok.there z; rw [hp] at q; cases q
    have hF : F p = none := by
      cases z : F p with
      | none => rfl
      | some o => rw [r.base.le _ _ z] at hp; cases hp
    refine hk.sem (r.ext e0) hw fun dk x F1 H1 q1 e1 h1 => hv.sem ((r.ext e0).ext e1) q1 fun dv y F2 H2 q2 e2 h2 => ?_
    obtain ⟨ok, ⟨ds, ed⟩, q3⟩ := q2
    have e12 := e1.trans e2
    have hb := e12.sH _ _ (upd_same (H := H) (a := p) (o := .dT [])) nx
    have hF2 : F2 p = none := by
      cases z : F2 p with
      | none => rfl
      | some u =>
        rcases e12.fr _ _ z with y | y | ⟨xs, rfl⟩
        · rw [hF] at y; cases y
        · rw [upd_same] at y; cases y
        · have y := e12.le _ _ z
          rw [hb] at y; cases y
    have hx := h1.mono e2.sF
    rcases hx.keyAt e12.le ok with ⟨i, ei, _⟩ | ⟨ks, b, ek, rfl, hkb⟩
    · rw [ed] at ei
      cases i <;> cases ei
    refine ⟨hb, ks, b, rfl, hkb, ?_⟩
    have e3 := e0.trans e12
    refine kk _ p F2 _ q3 ⟨e3.sF, fun b o z n => ?_, fun b o z => ?_, e3.fr, ?_⟩ (.inr ⟨_, upd_same, by rw [ek]; exact .cons h2 .nil⟩) hF2 hp
    · rw [upd_ne (ne_of_none z hp)]; exact e3.sH _ _ z n
    · rw [upd_ne (ne_of_none z hF2)]; exact e3.le _ _ z
    · cases sx with
      | none => trivial
      | some pp =>
        obtain ⟨a1, b1⟩ := pp
        obtain ⟨n, cs, l, m, t, z1, z2, z⟩ := e3.ok
        exact ⟨n, cs, l, m, t, by rw [upd_ne (fun z => nx (.inl z.symm))]; exact z1, by rw [upd_ne (fun z => nx (.inr z.symm))]; exact z2, z⟩⟩
end
/-- a statement that is never met -/
def tNo : TS := fun _ _ _ => False
def wNo : WS := fun _ _ => False
theorem ds_no {X : Cx} {st : Stmt} : DS X st tNo wNo := ⟨⟨fun _ _ _ _ _ _ h => h.elim⟩, fun {sx H0 F0 F σ H η D R} r hw _ => hw.elim⟩
/-- an int that the module's top has named -/
theorem de_topI {X : Cx} {x : Str} {i : Int} {pos : Pos} (hg : Gl X x) (hm : ∃ t, X.mg x = some (.int i t)) (hd : (x == ("__debug__" : Str)) = false := by decide) : DE X (.Name x pos) (tC (.int i)) (wC (.int i)) := by
  obtain ⟨t, ht⟩ := hm
  exact de_glob hg ht ⟨t, rfl⟩ (fun _ => .int i) hd
end W2

set_option Elab.async false
set_option linter.all false
set_option maxRecDepth 100000
set_option maxHeartbeats 4000000
/-! W2AE: a tuple taken some times, once or not at all too. -/
namespace W2
open PySem PySem.Spec PyProof.Rows L2
open PySem.AutoSeq1 (wpAny_loadPart')
theorem tup_mul1 (p : Addr) (its : Array Value) (m : Nat) (dc : Option Addr) (ss : Array (Option Value)) (tk : Tok) :
    Meets (Builtin.«tuple.__mul__» ⟨[.ref p, .int 1 tk], []⟩) (fun _ R st => st.heap.get? p = some { cls := .type "tuple", dict := dc, data := .seq its m, slots := ss } ∧ R (.ok (.ret (.ref p))) st) :=
  .of_wp fun prog w A R st hh => by
    obtain ⟨hp, g, d, tt, os⟩ := st
    obtain ⟨hl, hh⟩ := hh
    have f1 := AutoSeq1.idx_int
    wp_walk using wpAny_loadPart' hl
    exact ⟨_, rfl, hh⟩
theorem tup_mul0 (p : Addr) (its : Array Value) (m : Nat) (dc : Option Addr) (ss : Array (Option Value)) (k : Int) (tk : Tok) (h1 : ¬ its.isEmpty = true) (h2 : k ≤ 0) (h3 : -1000 ≤ k) :
    Meets (Builtin.«tuple.__mul__» ⟨[.ref p, .int k tk], []⟩) (fun _ R st => st.heap.get? p = some { cls := .type "tuple", dict := dc, data := .seq its m, slots := ss } ∧
      R (.ok (.ret (Value.ref st.heap.objs.size))) { st with heap := st.heap.push { cls := Value.type "tuple", data := Data.seq #[] }, toks := st.toks }) :=
  .of_wp fun prog w A R st hh => by
    obtain ⟨hp, g, d, tt, os⟩ := st
    obtain ⟨hl, hh⟩ := hh
    have f1 := AutoSeq1.idx_int
    wp_walk using wpAny_loadPart' hl
    have c0 : ¬ (decide (k < -2 ^ 63) || decide (k ≥ 2 ^ 63)) = true := fun z => by
      rw [Bool.or_eq_true, decide_eq_true_eq, decide_eq_true_eq] at z
      omega
    have c1 : ¬ (its.isEmpty || k == 1) = true := fun z => by
      rw [Bool.or_eq_true, beq_iff_eq] at z
      rcases z with z | z
      · exact h1 z
      · omega
    refine wpAny_ite_false (decide_eq_false c0) ?_
    wp_walk using wpAny_loadPart' hl
    refine wpAny_ite_false (decide_eq_false c1) ?_
    wp_walk using wpAny_loadPart' hl
    exact ⟨_, rfl, hh⟩
def rRepA (K : PySem.W.Frag) : R2 := fun x y H Q => rRepT K x y H Q ∨ ∃ (l : Addr) (k : Int) (xs : List V), x = .ref l ∧ y = .int k ∧ SqT K H l xs ∧ xs ≠ [] ∧ ((k = 1 ∧ Q (.ref l) H) ∨ (-1000 ≤ k ∧ k ≤ 0 ∧ ∀ p, H p = none → Q (.ref p) (upd H p (.tup []))))
theorem op_rep01 {X : Cx} : OpR X (binaryOp .Mult) (fun x y H Q => ∃ (l : Addr) (k : Int) (xs : List V), x = .ref l ∧ y = .int k ∧ SqT X.K H l xs ∧ xs ≠ [] ∧ ((k = 1 ∧ Q (.ref l) H) ∨ (-1000 ≤ k ∧ k ≤ 0 ∧ ∀ p, H p = none → Q (.ref p) (upd H p (.tup []))))) := by
  intro pins s σ H x y v u Q I rx ry h
  obtain ⟨l, k, xs, rfl, rfl, hT, ne, h⟩ := h
  cases rx
  obtain ⟨t, rfl⟩ := ry
  obtain ⟨its, rv, ⟨⟨cls, dct, dat, sl⟩, ho, hc, n, hd⟩, hz⟩ := I.tuple hT
  simp only at hc hd
  subst hc hd
  have ne' : its ≠ [] := fun z => ne (List.eq_nil_of_length_eq_zero (by rw [rv.length, z]; rfl))
  have ty : s.TypeIs (.ref l) "tuple" := ⟨_, ho, rfl⟩
  have go := fun (N : Value → Shared → Prop) (hN : wpAny (model X.prog X.w) X.A (call (.builtin "tuple.__mul__") [.ref l, .int k t]) N X.xe s) =>
    wpAny_binaryOp_repeat_ref (E := X.xe) (Q := N) (T := "tuple") (U := "int") (by decide) ty (fun z => typeIs_int z k t) noFill_tuple_mul F.fills_int_mul F.slot_int_rmul
      repeat_tuple F.slot_int_index.lookup (call_meets F.slot_int_rmul (typeIs_int s k t) F.entry_int_rmul (F.args_int_rmul_2 _ _) (int_rmul_tuple k t l its.toArray n dct sl) ⟨ho, rfl, ty, hN⟩)
  rcases h with ⟨rfl, q⟩ | ⟨h1, h2, q⟩
  · exact go _ (call_meets F.slot_tuple_mul ty F.entry_tuple_mul (F.args_tuple_mul_2 _ _) (tup_mul1 l its.toArray n dct sl t) ⟨ho, .ref l, H, I, rfl, q⟩)
  · refine go _ (call_meets F.slot_tuple_mul ty F.entry_tuple_mul (F.args_tuple_mul_2 _ _) (tup_mul0 l its.toArray n dct sl k t (fun z => ne' (by simpa using z)) h2 h1) ⟨ho, .ref s.heap.objs.size, _, ?_, rfl, q _ (I.hok.fresh (Nat.le_refl _))⟩)
    exact I.laid (t' := s.toks) (o := .tup []) (fun b ob z => Heap.get?_push_of_some _ z) (Nat.le_refl _) ⟨Nat.zero_le _, [], .nil, IsTup.new _ _⟩
theorem op_repA {X : Cx} (K : PySem.W.Frag) (hK : X.K = K) : OpR X (binaryOp .Mult) (rRepA K) := by
  subst hK
  exact OpR.or op_repT op_rep01
/-- a tuple taken k times -/
def gRepT : D → D → (D → Prop) → Prop
  | .tuple ds, .int k, Q => ds ≠ [] ∧ ds.length ≤ 1000 ∧ -1000 ≤ k ∧ k ≤ 1000 ∧ Q (.tuple (List.replicate k.toNat ds).flatten)
  | _, _, _ => False
theorem DtL.rep {K : PySem.W.Frag} {F : Hp} {vs : List V} {ds : List D} (h : DtL K F vs ds) : ∀ n : Nat, DtL K F (List.replicate n vs).flatten (List.replicate n ds).flatten
  | 0 => .nil
  | n + 1 => by
    rw [List.replicate_succ, List.replicate_succ, List.flatten_cons, List.flatten_cons]
    exact h.append (DtL.rep h n)
theorem rs_repT {K : PySem.W.Frag} : RSem K (rRepA K) gRepT := fun {sx F H x y dx dy Q R} b hx hy hg k => by
  cases dx <;> cases dy <;> first | exact hg.elim | skip
  rename_i ds i
  obtain ⟨ne, hl, h0, h1, q⟩ := hg
  cases hy.int
  obtain ⟨a, xs, rfl, e1, e2⟩ := hx.tuple
  have sq : SqT K H a xs := SqT.of (b.le _ _ e1)
  have nx : xs ≠ [] := fun z => ne (e2.nil_iff.mp z)
  by_cases c : 2 ≤ i
  · exact .inl ⟨a, i, xs, rfl, rfl, sq, nx, c, h1, by rw [e2.length]; exact hl, k.tup b q (e2.rep _)⟩
  · by_cases c1 : i = 1
    · subst c1
      refine .inr ⟨a, 1, xs, rfl, rfl, sq, nx, .inl ⟨rfl, k.now b (d := .tuple ds) ?_ (.tup e1 e2)⟩⟩
      have e : (List.replicate (1 : Int).toNat ds).flatten = ds := by
        show (List.replicate 1 ds).flatten = ds
        simp
      rw [e] at q
      exact q
    · have z : i.toNat = 0 := by omega
      rw [z] at q
      exact .inr ⟨a, i, xs, rfl, rfl, sq, nx, .inr ⟨h0, by omega, k.tup b q .nil⟩⟩
end W2

set_option Elab.async false
set_option linter.all false
set_option maxRecDepth 100000
/-! W2AF: len of a list, a tuple, a text, a dict. -/
namespace W2
open PySem PySem.Spec PyProof.Rows L2
def gLenX : List D → (D → Prop) → Prop
  | [.dict es], Q => Q (.int es.length)
  | ds, Q => gLen ds Q
def rLenX (K : PySem.W.Frag) : List V → Hp → VK → Prop := fun xs H Q => rLenA K xs H Q ∨ ∃ a, xs = [.ref a] ∧ ((∃ kvs : List (Key × V), Rd H a (.dK kvs) ∧ Q (.int ((kvs.length : Nat) : Int)) H) ∨ ∃ kvs : List (List Key × V), Rd H a (.dT kvs) ∧ Q (.int ((kvs.length : Nat) : Int)) H)
theorem cr_lenD {X : Cx} : CallR X (.builtin "len") (fun xs H Q => ∃ a, xs = [.ref a] ∧ ((∃ kvs : List (Key × V), Rd H a (.dK kvs) ∧ Q (.int ((kvs.length : Nat) : Int)) H) ∨ ∃ kvs : List (List Key × V), Rd H a (.dT kvs) ∧ Q (.int ((kvs.length : Nat) : Int)) H)) := by
  intro pins s σ H xs us Q I r h
  obtain ⟨a, rfl, h⟩ := h
  obtain ⟨u, rfl, rx⟩ := vals1 r
  cases (show u = Value.ref a from rx)
  rcases h with ⟨kvs, hd, q⟩ | ⟨kvs, hd, q⟩
  · exact d_len I hd fun t s' I' => ⟨.int _, H, I', ⟨_, rfl⟩, q⟩
  · obtain ⟨z, hs, ys, rel, dd⟩ := dt_rd I.hok hd
    have hl : kvs.length = ys.length := Paired.length rel
    refine call_len_dictH hs dd (by rw [← hl]; rw [sizeLine_eq] at z; omega) ?_
    rw [← hl]
    exact ⟨.int ((kvs.length : Nat) : Int), H, I.tok _, ⟨_, rfl⟩, q⟩
theorem cr_lenX {X : Cx} (K : PySem.W.Frag) (hK : X.K = K) : CallR X (.builtin "len") (rLenX K) := by
  subst hK
  exact CallR.or cr_len cr_lenD
theorem DtK.lenE {K : PySem.W.Frag} {F : Hp} : ∀ {kvs : List (Key × V)} {es : List (D × D)}, DtK K F kvs es → kvs.length = es.length
  | _, _, .nil => rfl
  | _, _, .cons _ t => congrArg (· + 1) t.lenE
theorem DtT.lenE {K : PySem.W.Frag} {F : Hp} : ∀ {kvs : List (List Key × V)} {es : List (D × D)}, DtT K F kvs es → kvs.length = es.length
  | _, _, .nil => rfl
  | _, _, .cons _ t => congrArg (· + 1) t.lenE
theorem cs_lenX {K : PySem.W.Frag} : CSem K (rLenX K) gLenX := fun {sx F H vs ds Q R} b h hg k => by
  unfold gLenX at hg
  split at hg
  · obtain ⟨v, rfl, h1⟩ := Nws.one h
    obtain ⟨a, rfl, hd⟩ := h1.dict b.le
    refine .inr ⟨a, rfl, ?_⟩
    rcases hd with ⟨kvs, rd, hd⟩ | ⟨kvs, rd, hd⟩
    · exact .inl ⟨kvs, rd, by rw [hd.lenE]; exact k.now b hg (.int _)⟩
    · exact .inr ⟨kvs, rd, by rw [hd.lenE]; exact k.now b hg (.int _)⟩
  · exact .inl (cs_len b h hg k)
end W2

set_option Elab.async false
set_option linter.all false
set_option maxRecDepth 100000
/-! W2AG: one of some (gen.py prints gIxA, gLenX). -/
namespace W2
open PySem PySem.Spec PyProof.Rows L2 PySem.W
def wbOfX : WS := wRet (w2 gIxA (wB 1) (wFnS 0 1 wfPick (wCons (wCall gLenX (wCons (wB 1) wNil)) wNil)))
theorem of_lawX {ds : List D} {Q : D → Prop} (hl : ds.length = 1) (h : wfOf ds Q) : wbOfX { nx := fun _ => Q .none, rt := Q } (startE ["source", "some"] (.src :: ds.map .fz)) := by
  obtain ⟨d, rfl⟩ : ∃ d, ds = [d] := by
    match ds, hl with
    | [d], _ => exact ⟨d, rfl⟩
  have go : ∀ (xs : List D) (P : D → Prop), xs ≠ [] → xs.length < 1073741824 → (∀ x ∈ xs, P x) → (xs.length : Int) < 1073741824 ∧ ∀ r : Int, 0 ≤ r → r < max 1 (xs.length : Int) → ∃ x, L2.atI xs r = some x ∧ P x := fun xs P ne lt h => by
    refine ⟨by omega, fun r h0 h1 => ?_⟩
    have pos : 0 < xs.length := by cases xs with | nil => exact absurd rfl ne | cons _ _ => exact Nat.succ_pos _
    have hr : r.toNat < xs.length := by omega
    refine ⟨xs[r.toNat], ?_, h _ (List.getElem_mem _)⟩
    unfold L2.atI ixN
    rw [if_pos h0, if_pos (by omega)]
    exact List.getElem?_eq_getElem hr
  cases d <;> first | exact h.elim | skip
  · rename_i xs
    obtain ⟨g1, g2⟩ := go xs Q h.1 h.2.1 h.2.2
    exact ⟨rfl, g1, fun r h0 h1 => g2 r h0 h1⟩
  · rename_i xs
    obtain ⟨g1, g2⟩ := go xs Q h.1 h.2.1 h.2.2
    exact ⟨rfl, g1, fun r h0 h1 => g2 r h0 h1⟩
/-- an int that the module's top has named -/
theorem top_int {K : PySem.W.Frag} {h : Heap} {mg : Str → Option Value} {x : Str} {i : Int} {t : Tok} (X : K.In h) (G : h.Ns mainGlobals mg) (e : PySem.W.nsIn K mainGlobals x = some (some (.int i t))) : ∃ t, mg x = some (.int i t) := ⟨t, PySem.W.mg_of X G e⟩
end W2

set_option Elab.async false
set_option linter.all false
set_option maxRecDepth 100000
set_option maxHeartbeats 2000000
/-! W2AH: zip(x, y, strict=True) of two lists or tuples of one length, in any mix: at the model's level. -/
namespace W2
open PySem
abbrev ZipS (h : Heap) (q ti to : Addr) (v : Value) : Prop := h.get? q = some { cls := .type "zip", dict := none, data := .fields #[v, .bool false, .bool true, .ref ti, .ref to], slots := #[] }
section
variable {prog : Program} {w : World} {A : Around} {E : Value → Shared → Prop} {s : Shared}
/-- an item drawn, or the end told -/
theorem next_some {it : Addr} {fp : List Addr} {n i : Nat} {P : Nat → Value → Prop} {St : Nat → Heap → Prop} {Q : Option Value → Shared → Prop} (D : Draws prog w A it fp n P St) (lt : i < n) (st : St i s.heap)
    (k : ∀ x g tk, P i x → St (i + 1) g → Heap.SameBut it s.heap g → Q (some x) { s with heap := g, toks := tk }) : wpAny (model prog w) A (Builtin.SmallTypes.nextOrEnd (.ref it)) Q E s := by
  unfold Builtin.SmallTypes.nextOrEnd
  exact wpAny_bind (wpAny_attempt (D.item i s _ _ lt st fun x g tk hx hs hb => wpAny_pure (k x g tk hx hs hb)))
theorem next_none {it : Addr} {fp : List Addr} {n : Nat} {P : Nat → Value → Prop} {St : Nat → Heap → Prop} {Q : Option Value → Shared → Prop} (D : Draws prog w A it fp n P St) (st : St n s.heap)
    (k : ∀ g, Heap.ExtBut it s.heap g → Q none { s with heap := g }) : wpAny (model prog w) A (Builtin.SmallTypes.nextOrEnd (.ref it)) Q E s := by
  unfold Builtin.SmallTypes.nextOrEnd
  refine wpAny_bind (wpAny_attempt (D.done s _ _ st fun g e hb ⟨o, ho, hc⟩ => ?_))
  exact wpAny_bind (wpAny_isInstance (T := "StopIteration") (b := true) ⟨o, ho, hc⟩ isSubtype_stop (wpAny_pure (k g hb)))
variable {q ti to i1 i2 : Addr} {fp1 fp2 : List Addr} {n1 n2 i : Nat} {P1 P2 : Nat → Value → Prop} {St1 St2 : Nat → Heap → Prop} {u1 u2 : Value}
theorem zs_item {Q : Value → Shared → Prop} (S : ZipSep2 q ti to i1 i2 fp1 fp2) (D1 : Draws prog w A i1 fp1 n1 P1 St1) (D2 : Draws prog w A i2 fp2 n2 P2 St2) (hz : ZipS s.heap q ti to .none) (hi : IsTupOf2 s.heap ti (.ref i1) (.ref i2)) (ho : IsTupOf2 s.heap to u1 u2)
    (c1 : St1 i s.heap) (c2 : St2 i s.heap) (l1 : i < n1) (l2 : i < n2)
    (k : ∀ x y g tk, P1 i x → P2 i y → ZipS g q ti to (rawInt s.heap.objs.size) → IsTupOf2 g to x y → St1 (i + 1) g → St2 (i + 1) g → IsTupOf2 g s.heap.objs.size x y → g.objs.size = s.heap.objs.size + 1 →
      (∀ c o, c ≠ q → c ≠ to → c ≠ i1 → c ≠ i2 → s.heap.get? c = some o → g.get? c = some o) → Q (.ref s.heap.objs.size) { s with heap := g, toks := tk }) :
    wpAny (model prog w) A (Builtin.«zip.__next__» ⟨[.ref q], []⟩) (fun fin t => ∃ v, fin = .done (.ret v) ∧ Q v t) E s := by
  obtain ⟨h0, gn, dr, t0, os⟩ := s
  show wpAny _ _ (field (.ref q) 2 >>= _) _ _ _; refine wpAny_bind (wpAny_field hz rfl (x := .bool true) rfl ?_)
  show wpAny _ _ (field (.ref q) 3 >>= _) _ _ _; refine wpAny_bind (wpAny_field hz rfl (x := .ref ti) rfl (wpAny_bind (wpAny_seqItems hi rfl ?_)))
  show wpAny _ _ (Builtin.SmallTypes.ownedTupleIsFree (.ref q) >>= _) _ _ _; refine wpAny_bind ?_; unfold Builtin.SmallTypes.ownedTupleIsFree
  refine wpAny_bind (wpAny_field hz rfl (x := .none) rfl (wpAny_pure ?_)); simp only [if_true]
  refine wpAny_bind (wpAny_rule (wpAny_bind (wpAny_field hz rfl (x := .ref to) rfl (wpAny_bind (wpAny_setField_rec hz (by simp) fun a0 z0 b0 => ?_)))))
  replace z0 : ZipS a0 q ti to .ellipsis := z0; replace b0 : Heap.SameBut q h0 a0 := b0
  refine wpAny_bind ?_; simp only [List.zipIdx_cons, List.zipIdx_nil, List.forIn_cons, List.forIn_nil]
  refine wpAny_bind (wpAny_bind (wpAny_onRaise ?_)); show wpAny _ _ (Builtin.SmallTypes.nextOrEnd (.ref i1)) _ _ ⟨a0, gn, dr, t0, os⟩
  refine next_some D1 l1 (D1.over c1 b0 S.zf1) fun x p1 k1 hx e1 s1 => ?_; replace s1 : Heap.SameBut i1 a0 p1 := s1
  have o1 : IsTupOf2 p1 to u1 u2 := s1.extBut _ _ S.Ti1 (b0.extBut _ _ S.TOz ho)
  refine wpAny_bind (wpAny_seqItems (s := ⟨p1, gn, dr, k1, os⟩) o1 rfl (wpAny_bind (updateSeq_IsTupOf2 (s := ⟨p1, gn, dr, k1, os⟩) o1 fun a1 t1 b1 => ?_)))
  replace t1 : IsTupOf2 a1 to x u2 := t1; replace b1 : Heap.SameBut to p1 a1 := b1
  refine wpAny_bind (wpAny_letGo (wpAny_pure (wpAny_bind (wpAny_bind (wpAny_onRaise ?_))))); show wpAny _ _ (Builtin.SmallTypes.nextOrEnd (.ref i2)) _ _ ⟨a1, gn, dr, k1, os⟩
  refine next_some D2 l2 (D2.over (D2.over (D2.over c2 b0 S.zf2) s1 S.sep1_2) b1 S.Tf2) fun y p2 k2 hy e2 s2 => ?_; replace s2 : Heap.SameBut i2 a1 p2 := s2
  have o2 : IsTupOf2 p2 to x u2 := s2.extBut _ _ S.Ti2 t1
  refine wpAny_bind (wpAny_seqItems (s := ⟨p2, gn, dr, k2, os⟩) o2 rfl (wpAny_bind (updateSeq_IsTupOf2 (s := ⟨p2, gn, dr, k2, os⟩) o2 fun a2 t2 b2 => ?_)))
  replace t2 : IsTupOf2 a2 to x y := t2; replace b2 : Heap.SameBut to p2 a2 := b2
  refine wpAny_bind (wpAny_letGo (wpAny_pure (wpAny_pure (wpAny_bind (wpAny_seqItems (s := ⟨a2, gn, dr, k2, os⟩) t2 rfl (wpAny_bind (wpAny_newTuple ?_)))))))
  have sz : a2.objs.size = h0.objs.size := by rw [b2.1, s2.1, b1.1, s1.1, b0.1]
  have zz : ZipS a2 q ti to .ellipsis := b2.extBut _ _ S.TOz.symm (s2.extBut _ _ S.zi2 (b1.extBut _ _ S.TOz.symm (s1.extBut _ _ S.zi1 z0)))
  have kk : ∀ c o, c ≠ q → c ≠ to → c ≠ i1 → c ≠ i2 → h0.get? c = some o → a2.get? c = some o := fun c o x1 x2 x3 x4 e => b2.extBut _ _ x2 (s2.extBut _ _ x4 (b1.extBut _ _ x2 (s1.extBut _ _ x3 (b0.extBut _ _ x1 e))))
  have j1 : St1 (i + 1) a2 := D1.over (D1.over (D1.over e1 b1 S.Tf1) s2 S.sep2_1) b2 S.Tf1
  have j2 : St2 (i + 1) a2 := D2.over e2 b2 S.Tf2
  have zl : q < a2.objs.size := Heap.lt_size zz
  show wpAny _ _ (Builtin.SmallTypes.ownedTupleHandOut (.ref q) (.ref a2.objs.size) >>= _) _ _ ⟨a2.push { cls := .type "tuple", data := .seq #[x, y] }, gn, dr, k2, os⟩
  refine wpAny_bind ?_; unfold Builtin.SmallTypes.ownedTupleHandOut
  have z6 : ZipS (a2.push { cls := .type "tuple", data := .seq #[x, y] }) q ti to .ellipsis := Heap.get?_push_of_some _ zz
  refine wpAny_bind (wpAny_setField_rec z6 (by simp) fun a7 z7 b7 => ?_); replace z7 : ZipS a7 q ti to (rawInt a2.objs.size) := z7
  refine wpAny_setField_rec z7 (by simp) fun a8 z8 b8 => ?_; replace z8 : ZipS a8 q ti to (rawInt a2.objs.size) := z8
  replace b7 : Heap.SameBut q (a2.push { cls := .type "tuple", data := .seq #[x, y] }) a7 := b7; replace b8 : Heap.SameBut q a7 a8 := b8
  have up : ∀ c o, c ≠ q → a2.get? c = some o → a8.get? c = some o := fun c o x1 e => b8.extBut _ _ x1 (b7.extBut _ _ x1 (Heap.get?_push_of_some _ e))
  have t8 : IsTupOf2 a8 a2.objs.size x y := b8.extBut _ _ (Nat.ne_of_gt zl) (b7.extBut _ _ (Nat.ne_of_gt zl) (Heap.get?_push_size _ rfl))
  have s8 : a8.objs.size = a2.objs.size + 1 := by rw [b8.1, b7.1, Heap.size_push]
  rw [sz] at z8 t8 s8
  refine wpAny_pure ⟨_, rfl, ?_⟩; show Q (.ref a2.objs.size) ⟨a8, gn, dr, k2, os⟩; rw [sz]
  exact k x y a8 k2 hx hy z8 (up _ _ S.TOz t2) (D1.frame _ _ _ j1 fun b hb o e => up b o (fun z => S.zf1 (z ▸ hb)) e) (D2.frame _ _ _ j2 fun b hb o e => up b o (fun z => S.zf2 (z ▸ hb)) e) t8 s8 fun c o x1 x2 x3 x4 e => up c o x1 (kk c o x1 x2 x3 x4 e)
theorem zs_end {Q : Fin → Shared → Prop} (hh : A.handled = none) (S : ZipSep2 q ti to i1 i2 fp1 fp2) (D1 : Draws prog w A i1 fp1 n1 P1 St1) (D2 : Draws prog w A i2 fp2 n1 P2 St2) (hz : ZipS s.heap q ti to .none) (hi : IsTupOf2 s.heap ti (.ref i1) (.ref i2)) (ho : IsTupOf2 s.heap to u1 u2)
    (c1 : St1 n1 s.heap) (c2 : St2 n1 s.heap)
    (k : ∀ g tk e, (∀ c o, c ≠ q → c ≠ to → c ≠ i1 → c ≠ i2 → s.heap.get? c = some o → g.get? c = some o) → (∃ o, g.get? e = some o ∧ o.cls = .type "StopIteration") → E (.ref e) { s with heap := g, toks := tk }) :
    wpAny (model prog w) A (Builtin.«zip.__next__» ⟨[.ref q], []⟩) Q E s := by
  obtain ⟨h0, gn, dr, t0, os⟩ := s
  show wpAny _ _ (field (.ref q) 2 >>= _) _ _ _; refine wpAny_bind (wpAny_field hz rfl (x := .bool true) rfl ?_)
  show wpAny _ _ (field (.ref q) 3 >>= _) _ _ _; refine wpAny_bind (wpAny_field hz rfl (x := .ref ti) rfl (wpAny_bind (wpAny_seqItems hi rfl ?_)))
  show wpAny _ _ (Builtin.SmallTypes.ownedTupleIsFree (.ref q) >>= _) _ _ _; refine wpAny_bind ?_; unfold Builtin.SmallTypes.ownedTupleIsFree
  refine wpAny_bind (wpAny_field hz rfl (x := .none) rfl (wpAny_pure ?_)); simp only [if_true]
  refine wpAny_bind (wpAny_rule (wpAny_bind (wpAny_field hz rfl (x := .ref to) rfl (wpAny_bind (wpAny_setField_rec hz (by simp) fun a0 z0 b0 => ?_)))))
  replace z0 : ZipS a0 q ti to .ellipsis := z0; replace b0 : Heap.SameBut q h0 a0 := b0
  refine wpAny_bind ?_; simp only [List.zipIdx_cons, List.zipIdx_nil, List.forIn_cons, List.forIn_nil]
  refine wpAny_bind (wpAny_bind (wpAny_onRaise ?_)); show wpAny _ _ (Builtin.SmallTypes.nextOrEnd (.ref i1)) _ _ ⟨a0, gn, dr, t0, os⟩
  refine next_none D1 (D1.over c1 b0 S.zf1) fun p1 s1 => ?_; replace s1 : Heap.ExtBut i1 a0 p1 := s1
  have z1 : ZipS p1 q ti to .ellipsis := s1 _ _ S.zi1 z0
  refine wpAny_bind (wpAny_setField_rec (s := ⟨p1, gn, dr, t0, os⟩) z1 (by simp) fun a1 z2 b1 => ?_); replace b1 : Heap.SameBut q p1 a1 := b1
  refine wpAny_bind ?_
  have d1 : St2 n1 p1 := D2.frame _ _ _ (D2.over c2 b0 S.zf2) fun b hb o e => s1 b o (fun z => S.sep1_2 (z ▸ hb)) e
  refine wpAny_bind ?_; show wpAny _ _ (forIn [(Value.ref i2, 1)] PUnit.unit _) _ _ _; rw [List.forIn_cons]
  refine wpAny_bind (wpAny_bind (next_none D2 (s := ⟨a1, gn, dr, t0, os⟩) (D2.over d1 b1 S.zf2) fun p2 s2 => ?_)); replace s2 : Heap.ExtBut i2 a1 p2 := s2
  show wpAny _ _ (pure (ForInStep.yield PUnit.unit)) _ _ _; refine wpAny_pure ?_; show wpAny _ _ (forIn [] PUnit.unit _) _ _ _; rw [List.forIn_nil]; refine wpAny_pure (wpAny_bind (wpAny_rule ?_))
  unfold Builtin.SmallTypes.stopIteration; refine wpAny_bind ?_; simp only [newExc, newTuple]
  refine wpAny_bind (wpAny_newObj_type ?_ (by size_fits)); refine wpAny_bind (m := firstArgMember _ _) (wpAny_of_eq (a := Value.none) (by first | rfl | (simp only [firstArgMember]; rfl)) ?_)
  refine wpAny_newObj_type ?_ (by size_fits); simp only [raiseNew]; refine wpAny_bind (wpAny_handled ?_); rw [hh]
  refine wpAny_bind (wpAny_pure (wpAny_throw ?_))
  exact k _ _ _ (fun c o x1 x2 x3 x4 e => Heap.get?_push_of_some _ (Heap.get?_push_of_some _ (s2 _ _ x4 (b1.extBut _ _ x1 (s1 _ _ x3 (b0.extBut _ _ x1 e)))))) ⟨_, Heap.get?_push_size _ rfl, rfl⟩
end
end W2

set_option Elab.async false
set_option linter.all false
set_option maxRecDepth 100000
set_option maxHeartbeats 2000000
/-! W2AI: zip(x, y, strict=True): made, walked. -/
namespace W2
open PySem
theorem tc_zipS (x y v : Value) : checkTypeCall "zip" ⟨[x, y], [(Str.ofString "strict", v)]⟩ = pure () := by kernel_rfl
theorem nc_zipS (x y v : Value) : checkBuiltinCall "zip.__new__" ⟨[.type "zip", x, y], [(Str.ofString "strict", v)]⟩ = pure () := by kernel_rfl
theorem ai_zipS (o x y v : Value) : argsOk "object.__init__" ⟨[o, x, y], [(Str.ofString "strict", v)]⟩ := by unfold argsOk; kernel_rfl
abbrev zsT (h : Heap) (o1 o2 : Obj) : Heap := ((h.push o1).push o2).push { cls := .type "tuple", data := .seq #[.ref h.objs.size, .ref (h.push o1).objs.size] }
abbrev zsO (h : Heap) (o1 o2 : Obj) : Heap := (zsT h o1 o2).push { cls := .type "tuple", data := .seq #[.none, .none] }
abbrev zsZ (h : Heap) (o1 o2 : Obj) : Heap := (zsO h o1 o2).push { cls := .type "zip", data := .fields #[.none, .bool false, .bool true, .ref ((h.push o1).push o2).objs.size, .ref (zsT h o1 o2).objs.size] }
theorem meets_zipS {x y : Value} {o1 o2 : Obj} {H1 H2 : Heap → Prop} (B1 : Begins x o1 H1) (B2 : Begins y o2 H2) :
    Meets (Builtin.«zip.__new__» ⟨[.type "zip", x, y], [(Str.ofString "strict", .bool true)]⟩) (fun _ R s => (H1 s.heap ∧ H2 s.heap) ∧ R (.ok (.ret (.ref (zsO s.heap o1 o2).objs.size))) { s with heap := zsZ s.heap o1 o2 }) :=
  .of_wp fun prog w A R s hh => by
    obtain ⟨h0, gn, dr, tk, os⟩ := s; obtain ⟨⟨h1, h2⟩, hh⟩ := hh
    have hsub := sub_zip
    have e1 : (Str.ofString "strict" != ("strict" : Str)) = false := by decide +kernel
    have q1 : ∀ {A' : Around} {E : Value → Shared → Prop} {Q : Value → Shared → Prop}, Q (.ref h0.objs.size) ⟨h0.push o1, gn, dr, tk, os⟩ → wpAny (model prog w) A' (pyIter x) Q E ⟨h0, gn, dr, tk, os⟩ := fun q => B1.iter prog w _ _ ⟨h0, gn, dr, tk, os⟩ _ h1 q
    have q2 : ∀ {A' : Around} {E : Value → Shared → Prop} {Q : Value → Shared → Prop}, Q (.ref (h0.push o1).objs.size) ⟨(h0.push o1).push o2, gn, dr, tk, os⟩ → wpAny (model prog w) A' (pyIter y) Q E ⟨h0.push o1, gn, dr, tk, os⟩ := fun q => B2.iter prog w _ _ ⟨h0.push o1, gn, dr, tk, os⟩ _ (B2.keeps _ _ h2 fun b o e => Heap.get?_push_of_some _ e) q
    wp_walk using q1, q2
    exact ⟨_, rfl, hh⟩
end W2

set_option Elab.async false
set_option linter.all false
set_option maxRecDepth 100000
set_option maxHeartbeats 2000000
/-! W2AJ: zip(x, y) and zip(x, y, strict=True) of lists and tuples in any mix. -/
namespace W2
open PySem PySem.Spec PyProof.Rows L2
/-- a list or a tuple, by a mark -/
def sqIt (t : Bool) (h : Heap) (it a : Addr) (i : Nat) : Prop := match t with | true => h.IsTupleIter it a i | false => h.IsListIter it a i
def sqSc (t : Bool) (h : Heap) (a : Addr) (xs : Array Value) : Prop := match t with | true => h.IsTuple a xs | false => h.IsList a xs
def sqO (t : Bool) (a : Addr) : Obj := { cls := .type (match t with | true => "tuple_iterator" | false => "list_iterator"), data := .fields #[.ref a, .int 0 0] }
def sqH (t : Bool) (K : PySem.W.Frag) (H : Hp) (a : Addr) (xs : List V) : Prop := match t with | true => SqT K H a xs | false => SqL K H a xs
theorem sq_draws {P : Program} {w : World} {A : Around} (hh : A.handled = none) (t : Bool) (it a : Addr) (ne : a ≠ it) (xs : Array Value) : Draws P w A it [it, a] xs.size (fun i v => xs[i]? = some v) (fun i h => sqIt t h it a i ∧ sqSc t h a xs) := by
  cases t
  · exact Draws.list hh it a ne xs
  · exact Draws.tuple hh it a ne xs
theorem sq_begins (t : Bool) (a : Addr) (xs : Array Value) : Begins (.ref a) (sqO t a) fun h => sqSc t h a xs := by
  cases t
  · exact begins_list a xs
  · exact begins_tuple a xs
theorem sq_it (t : Bool) {h : Heap} {it a : Addr} (e : h.get? it = some (sqO t a)) : sqIt t h it a 0 := by
  cases t
  · exact ⟨_, e, rfl, rfl⟩
  · exact ⟨_, e, rfl, rfl⟩
theorem sq_at (t : Bool) {h h' : Heap} {it a : Addr} {i : Nat} (e : sqIt t h it a i) (k : ∀ o, h.get? it = some o → h'.get? it = some o) : sqIt t h' it a i := by
  cases t
  · exact Heap.IsListIter.at e k
  · exact Heap.IsTupleIter.at e k
theorem sq_obj (t : Bool) {h : Heap} {it a : Addr} {i : Nat} (e : sqIt t h it a i) : ∃ o, h.get? it = some o ∧ ∀ v, o.data ≠ .cell v := by
  cases t
  · obtain ⟨o, e, _, d⟩ := e; exact ⟨o, e, fun v q => by rw [d] at q; cases q⟩
  · obtain ⟨o, e, _, d⟩ := e; exact ⟨o, e, fun v q => by rw [d] at q; cases q⟩
theorem sq_its (t : Bool) {X : Cx} {pins : List (Addr × Obj)} {σ : L2.St} {H : Hp} {s : Shared} {a : Addr} {xs : List V} (I : Inv X pins σ H s) (q : sqH t X.K H a xs) : ∃ its : List Value, Vals xs its ∧ sqSc t s.heap a its.toArray ∧ a < s.heap.objs.size := by
  cases t
  · obtain ⟨its, r, p, _⟩ := I.list q
    exact ⟨its, r, p.isList, by obtain ⟨o, ho, _⟩ := p.isList; exact Heap.lt_size ho⟩
  · obtain ⟨its, r, p, _⟩ := I.tuple q
    have pt : s.heap.IsTuple a its.toArray := p
    exact ⟨its, r, pt, by obtain ⟨o, ho, _⟩ := pt; exact Heap.lt_size ho⟩
/-- plain or strict, by a mark -/
def ZipB (b : Bool) (h : Heap) (q ti to : Addr) (v : Value) : Prop := h.get? q = some { cls := .type "zip", dict := none, data := .fields #[v, .bool false, .bool b, .ref ti, .ref to], slots := #[] }
section
variable {prog : Program} {w : World} {A : Around} {E : Value → Shared → Prop} {s : Shared}
theorem go_zipS {elts : List Expr} {k : Nat} {pos : Pos} {q ti to T : Addr} {Q : Unit → Shared → Prop} (hz : ZipS s.heap q ti to (rawInt T))
    (hQ : ∀ g, ZipS g q ti to .none → Heap.SameBut q s.heap g → Q () { s with heap := g }) : wpAny (model prog w) A (letOwnedTupleGo (.Tuple elts k pos) (.ref q) (.ref T)) Q E s := by
  unfold letOwnedTupleGo; refine wpAny_bind (wpAny_load hz ?_)
  show wpAny _ _ (if (["enumerate", "zip", "dict_itemiterator", "dict_reverseitemiterator", "odict_iterator", "itertools.zip_longest", "itertools.pairwise"].contains "zip" && (#[rawInt T, .bool false, .bool true, .ref ti, .ref to] : Array Value)[0]? == some (rawInt T)) = true then _ else _) Q E s
  rw [if_pos (by simp)]; refine wpAny_bind (wpAny_rule ?_); show wpAny _ _ (setField (.ref q) 0 .none) Q E s
  exact wpAny_setField_rec hz (by simp) fun g z b => hQ g z b
theorem iter_zipS {q ti to : Addr} {v : Value} {Q : Value → Shared → Prop} (hz : ZipS s.heap q ti to v) (h : Q (.ref q) s) : wpAny (model prog w) A (pyIter (.ref q)) Q E s := by
  have hT : s.TypeIs (.ref q) "zip" := ⟨_, hz, rfl⟩
  refine wpAny_pyIter_slot hT F.slot_zip_iter (wpAny_call_entry F.slot_zip_iter hT F.entry_zip_iter ?_ (F.args_zip_iter_1 _)); show wpAny _ _ (ret (.ref q)) _ _ s
  exact wpAny_pure ⟨_, rfl, "zip", _, hT, F.slot_zip_next.lookup, h⟩
variable {q ti to i1 i2 : Addr} {fp1 fp2 : List Addr} {n i : Nat} {P1 P2 : Nat → Value → Prop} {St1 St2 : Nat → Heap → Prop} {u1 u2 : Value}
theorem walks_zipS (hh : A.handled = none) (S : ZipSep2 q ti to i1 i2 fp1 fp2) (D1 : Draws prog w A.in1 i1 fp1 n P1 St1) (D2 : Draws prog w A.in1 i2 fp2 n P2 St2) :
    WalksT prog w A q (q :: ti :: to :: (fp1 ++ fp2)) [q, ti, to, i1, i2] n (fun i vals => ∃ x y, P1 i x ∧ P2 i y ∧ vals = #[x, y])
      (fun i h => ZipS h q ti to .none ∧ IsTupOf2 h ti (.ref i1) (.ref i2) ∧ (∃ x y, IsTupOf2 h to x y) ∧ St1 i h ∧ St2 i h)
      (fun i T h => ZipS h q ti to (rawInt T) ∧ IsTupOf2 h ti (.ref i1) (.ref i2) ∧ (∃ x y, IsTupOf2 h to x y) ∧ St1 (i + 1) h ∧ St2 (i + 1) h ∧ T ∉ [q, ti, to, i1, i2]) where
  sub := fun c hc => by
    simp only [List.mem_cons, List.not_mem_nil, or_false] at hc
    simp only [List.mem_cons, List.mem_append]
    rcases hc with e | e | e | e | e
    · exact .inl e
    · exact .inr (.inl e)
    · exact .inr (.inr (.inl e))
    · exact .inr (.inr (.inr (.inl (e ▸ S.mem1))))
    · exact .inr (.inr (.inr (.inr (e ▸ S.mem2))))
  frame := fun i h h' ⟨z1, z2, ⟨x, y, z3⟩, z4, z5⟩ hk => ⟨hk q (by simp) _ z1, hk ti (by simp) _ z2, ⟨x, y, hk to (by simp) _ z3⟩, D1.frame _ _ _ z4 fun b hb => hk b (by simp [hb]), D2.frame _ _ _ z5 fun b hb => hk b (by simp [hb])⟩
  item := fun i s Q E hi ⟨z1, z2, ⟨x, y, z3⟩, z4, z5⟩ hQ => by
    have hT : s.TypeIs (.ref q) "zip" := ⟨_, z1, rfl⟩
    have lt : ∀ {c o}, s.heap.get? c = some o → s.heap.objs.size ≠ c := fun e => Nat.ne_of_gt (Heap.lt_size e)
    have l1 : s.heap.objs.size ≠ i1 := by obtain ⟨_, e⟩ := D1.live _ _ z4; exact lt e
    have l2 : s.heap.objs.size ≠ i2 := by obtain ⟨_, e⟩ := D2.live _ _ z5; exact lt e
    unfold pyNext; refine wpAny_bind (wpAny_attempt (wpAny_callSpecial?_slot (name := Str.ofString "__next__") hT F.slot_zip_next (wpAny_call_entry F.slot_zip_next hT F.entry_zip_next ?_ (F.args_zip_next_1 _))))
    refine zs_item S D1 D2 z1 z2 z3 z4 z5 hi hi fun a b g tk p1 p2 y1 y2 y3 y4 y5 y6 hk => wpAny_pure ?_
    exact hQ _ #[a, b] g tk ⟨a, b, p1, p2, rfl⟩ (Nat.le_refl _) ⟨_, y5, rfl, _, rfl⟩ ⟨y1, hk _ _ S.TIz S.TITO S.TIi1 S.TIi2 z2, ⟨_, _, y2⟩, y3, y4, by simp [lt z1, lt z2, lt z3, l1, l2]⟩ fun c o hc e => by
      simp only [List.mem_cons, List.not_mem_nil, or_false, not_or] at hc
      exact hk c o hc.1 hc.2.2.1 hc.2.2.2.1 hc.2.2.2.2 e
  go := fun elts k pos i T s Q E ⟨z1, z2, ⟨x, y, z3⟩, z4, z5, _⟩ hQ => go_zipS z1 fun g z b => hQ g ⟨z, b.extBut _ _ S.TIz z2, ⟨x, y, b.extBut _ _ S.TOz z3⟩, D1.over z4 b S.zf1, D2.over z5 b S.zf2⟩ fun c o hc e => b.extBut _ _ (fun z => hc (by simp [z])) e
  apart := fun i T h ⟨_, _, _, _, _, t⟩ => t
  done := fun s Q E ⟨z1, z2, ⟨x, y, z3⟩, z4, z5⟩ hQ => by
    have hT : s.TypeIs (.ref q) "zip" := ⟨_, z1, rfl⟩
    unfold pyNext; refine wpAny_bind (wpAny_attempt (wpAny_callSpecial?_slot (name := Str.ofString "__next__") hT F.slot_zip_next (wpAny_call_entry F.slot_zip_next hT F.entry_zip_next ?_ (F.args_zip_next_1 _))))
    refine zs_end hh S D1 D2 z1 z2 z3 z4 z5 fun g tk e hk ⟨o, ho, hc⟩ => ?_
    refine wpAny_bind (wpAny_isInstance (T := "StopIteration") (b := true) ⟨o, ho, hc⟩ isSubtype_stop (wpAny_pure (hQ _ _ fun c o hc e => ?_)))
    simp only [List.mem_cons, List.not_mem_nil, or_false, not_or] at hc
    exact hk c o hc.1 hc.2.2.1 hc.2.2.2.1 hc.2.2.2.2 e
  self := fun i s Q E h hQ => iter_zipS h.1 hQ
variable {n1 n2 : Nat}
theorem walks_zipP (S : ZipSep2 q ti to i1 i2 fp1 fp2) (D1 : Draws prog w A.in1 i1 fp1 n1 P1 St1) (D2 : Draws prog w A.in1 i2 fp2 n2 P2 St2) :
    WalksT prog w A q (q :: ti :: to :: (fp1 ++ fp2)) [q, ti, to, i1, i2] (min n1 n2) (fun i vals => ∃ x y, P1 i x ∧ P2 i y ∧ vals = #[x, y])
      (fun i h => IsZip h q ti to .none ∧ IsTupOf2 h ti (.ref i1) (.ref i2) ∧ (∃ x y, IsTupOf2 h to x y) ∧ St1 i h ∧ St2 i h)
      (fun i T h => IsZip h q ti to (rawInt T) ∧ IsTupOf2 h ti (.ref i1) (.ref i2) ∧ (∃ x y, IsTupOf2 h to x y) ∧ St1 (i + 1) h ∧ St2 (i + 1) h ∧ T ∉ [q, ti, to, i1, i2]) where
  sub := fun c hc => by
    simp only [List.mem_cons, List.not_mem_nil, or_false] at hc
    simp only [List.mem_cons, List.mem_append]
    rcases hc with e | e | e | e | e
    · exact .inl e
    · exact .inr (.inl e)
    · exact .inr (.inr (.inl e))
    · exact .inr (.inr (.inr (.inl (e ▸ S.mem1))))
    · exact .inr (.inr (.inr (.inr (e ▸ S.mem2))))
  frame := fun i h h' ⟨z1, z2, ⟨x, y, z3⟩, z4, z5⟩ hk => ⟨hk q (by simp) _ z1, hk ti (by simp) _ z2, ⟨x, y, hk to (by simp) _ z3⟩, D1.frame _ _ _ z4 fun b hb => hk b (by simp [hb]), D2.frame _ _ _ z5 fun b hb => hk b (by simp [hb])⟩
  item := fun i s Q E hi ⟨z1, z2, ⟨x, y, z3⟩, z4, z5⟩ hQ => by
    have lt : ∀ {c o}, s.heap.get? c = some o → s.heap.objs.size ≠ c := fun e => Nat.ne_of_gt (Heap.lt_size e)
    have l1 : s.heap.objs.size ≠ i1 := by obtain ⟨_, e⟩ := D1.live _ _ z4; exact lt e
    have l2 : s.heap.objs.size ≠ i2 := by obtain ⟨_, e⟩ := D2.live _ _ z5; exact lt e
    refine wpAny_pyNext_zipD2_item S D1 D2 z1 z2 z3 z4 z5 (by omega) (by omega) fun a b g tk p1 p2 y1 y2 y3 y4 y5 y6 hk => ?_
    exact hQ _ #[a, b] g tk ⟨a, b, p1, p2, rfl⟩ (Nat.le_refl _) ⟨_, y5, rfl, _, rfl⟩ ⟨y1, hk _ _ S.TIz S.TITO S.TIi1 S.TIi2 z2, ⟨_, _, y2⟩, y3, y4, by simp [lt z1, lt z2, lt z3, l1, l2]⟩ fun c o hc e => by
      simp only [List.mem_cons, List.not_mem_nil, or_false, not_or] at hc
      exact hk c o hc.1 hc.2.2.1 hc.2.2.2.1 hc.2.2.2.2 e
  go := fun elts k pos i T s Q E ⟨z1, z2, ⟨x, y, z3⟩, z4, z5, _⟩ hQ => wpAny_letOwnedTupleGo_zip z1 fun g z b => hQ g ⟨z, b.extBut _ _ S.TIz z2, ⟨x, y, b.extBut _ _ S.TOz z3⟩, D1.over z4 b S.zf1, D2.over z5 b S.zf2⟩ fun c o hc e => b.extBut _ _ (fun z => hc (by simp [z])) e
  apart := fun i T h ⟨_, _, _, _, _, t⟩ => t
  done := fun s Q E ⟨z1, z2, ⟨x, y, z3⟩, z4, z5⟩ hQ => by
    refine wpAny_pyNext_zipD2_end S D1 D2 z1 z2 z3 z4 z5 (by omega) (by omega) (by omega) fun g tk hk => hQ g tk fun c o hc e => ?_
    simp only [List.mem_cons, List.not_mem_nil, or_false, not_or] at hc
    exact hk c o hc.1 hc.2.2.1 hc.2.2.2.1 hc.2.2.2.2 e
  self := fun i s Q E h hQ => wpAny_pyIter_zip h.1 hQ
end
end W2

set_option Elab.async false
set_option linter.all false
set_option maxRecDepth 100000
set_option maxHeartbeats 2000000
/-! W2AK: zip(x, y) and zip(x, y, strict=True): the rules. -/
namespace W2
open PySem PySem.Spec PyProof.Rows L2
section
variable {prog : Program} {w : World} {A : Around} {E : Value → Shared → Prop} {s : Shared}
theorem zip_beginsS {v1 v2 : Value} {o1 o2 : Obj} {H1 H2 : Heap → Prop} {Q : Value → Shared → Prop} (B1 : Begins v1 o1 H1) (B2 : Begins v2 o2 H2) (h1 : H1 s.heap) (h2 : H2 s.heap)
    (h : ∀ g, ZipS g (s.heap.objs.size + 4) (s.heap.objs.size + 2) (s.heap.objs.size + 3) .none → IsTupOf2 g (s.heap.objs.size + 2) (.ref s.heap.objs.size) (.ref (s.heap.objs.size + 1)) → IsTupOf2 g (s.heap.objs.size + 3) .none .none →
      g.get? s.heap.objs.size = some o1 → g.get? (s.heap.objs.size + 1) = some o2 → (∀ c o, s.heap.get? c = some o → g.get? c = some o) → Q (.ref (s.heap.objs.size + 4)) { s with heap := g }) :
    wpAny (model prog w) A (call (.type "zip") [v1, v2] [(Str.ofString "strict", .bool true)]) Q E s := by
  refine callType_newKw F.called_zip (by decide) (tc_zipS _ _ _) (nc_zipS _ _ _) (fun o => ai_zipS o _ _ _) F.entry_zip_new (meets_zipS B1 B2) ⟨⟨h1, h2⟩, ?_⟩
  have e1 : (s.heap.push o1).objs.size = s.heap.objs.size + 1 := by rw [Heap.size_push]
  have e2 : ((s.heap.push o1).push o2).objs.size = s.heap.objs.size + 2 := by rw [Heap.size_push, e1]
  have e3 : (zsT s.heap o1 o2).objs.size = s.heap.objs.size + 3 := by rw [Heap.size_push, e2]
  have e4 : (zsO s.heap o1 o2).objs.size = s.heap.objs.size + 4 := by rw [Heap.size_push, e3]
  have r : ∀ {h : Heap} {o : Obj} {c : Addr} {u : Obj}, h.get? c = some u → (h.push o).get? c = some u := fun e => Heap.get?_push_of_some _ e
  have g4 : (zsZ s.heap o1 o2).get? (zsO s.heap o1 o2).objs.size = some { cls := .type "zip", data := .fields #[.none, .bool false, .bool true, .ref ((s.heap.push o1).push o2).objs.size, .ref (zsT s.heap o1 o2).objs.size] } := Heap.get?_push_size _ rfl
  have g3 : (zsZ s.heap o1 o2).get? (zsT s.heap o1 o2).objs.size = some { cls := .type "tuple", data := .seq #[.none, .none] } := r (Heap.get?_push_size _ rfl)
  have g2 : (zsZ s.heap o1 o2).get? ((s.heap.push o1).push o2).objs.size = some { cls := .type "tuple", data := .seq #[.ref s.heap.objs.size, .ref (s.heap.push o1).objs.size] } := r (r (Heap.get?_push_size _ rfl))
  have g0 : (zsZ s.heap o1 o2).get? s.heap.objs.size = some o1 := r (r (r (r (Heap.get?_push_size _ B1.free))))
  have g1 : (zsZ s.heap o1 o2).get? (s.heap.push o1).objs.size = some o2 := r (r (r (Heap.get?_push_size _ B2.free)))
  rw [e4, e3, e2] at g4; rw [e3] at g3; rw [e2, e1] at g2; rw [e1] at g1
  show _ ∧ _
  rw [e4]
  exact ⟨⟨_, g4, rfl⟩, h _ g4 g2 g3 g0 g1 fun c o e => r (r (r (r (r e))))⟩
end
section
variable {M : Model} {A : Around} {E : Value → Shared → Prop} {s : Shared} {env : Env}
/-- a call of a built-in class with keywords -/
theorem cw_kw {pos : Pos} {T : String} {e : Expr} {rest : List Expr} {kws : List Keyword} {Q : Value → Shared → Prop}
    (h : wpAny M A (spliced (backTo pos (starEach (e :: rest) env))) (fun vs s₁ => wpAny M A (evalAll ((backToKw pos (keywordEach kws env)).map (·.2))) (fun ks s₂ => wpAny M A (call (.type T) vs (((backToKw pos (keywordEach kws env)).filterMap (·.1)).zip ks)) Q E s₂) E s₁) E s)
    (he : backTo pos (starEach (e :: rest) env) = (false, eval e env) :: backTo pos (starEach rest env)) (hp : (backTo pos (starEach (e :: rest) env)).any (·.1) = false)
    (ha : (backToKw pos (keywordEach kws env)).all (·.1.isSome) = true) (hn : (backToKw pos (keywordEach kws env)).any (·.1.isNone) = false) : wpAny M A (callWith pos (.type T) [] (backTo pos (starEach (e :: rest) env)) (backToKw pos (keywordEach kws env))) Q E s := by
  have h' : wpAny M A (evalArgs (.type T) true (backTo pos (starEach (e :: rest) env)) (backToKw pos (keywordEach kws env))) (fun a s₁ => wpAny M A (call (.type T) ([] ++ a.pos) a.kw) Q E s₁) E s := by
    rw [he] at h ⊢; exact evalArgs_kwB ha h
  unfold callWith; refine wpAny_bind (wpAny_holding (wpAny_mono h' (fun a s₁ h₁ => wpAny_bind (wpAny_standAt ?_)) fun _ _ x => x)); simp only [hp, hn, Bool.or_false]
  refine wpAny_bind (wpAny_pure (wpAny_bind (wpAny_mono h₁ (fun r s₂ hr => wpAny_bind (wpAny_holding (wpAny_point (wpAny_pure hr)))) fun _ _ x => x)))
end
/-- at each turn a pair of the two rows' items -/
def zpG (xs ys : List V) : Hp → Nat → List V → Prop := fun _ i vs => ∃ x y, xs[i]? = some x ∧ ys[i]? = some y ∧ vs = [x, y]
def ItZ (K : PySem.W.Frag) (t1 t2 : Bool) (a b : Addr) (xs ys : List V) : It := ItT (fun H => sqH t1 K H a xs ∧ sqH t2 K H b ys) (min xs.length ys.length) (zpG xs ys)
theorem sq_drawsN {P : Program} {w : World} {A : Around} (hh : A.handled = none) (t : Bool) (it a : Addr) (ne : a ≠ it) (xs : Array Value) (n : Nat) (e : xs.size = n) : Draws P w A it [it, a] n (fun i v => xs[i]? = some v) (fun i h => sqIt t h it a i ∧ sqSc t h a xs) := e ▸ sq_draws hh t it a ne xs
theorem zp_val {xs ys : List V} {us ws : List Value} (r1 : Vals xs us) (r2 : Vals ys ws) {H : Hp} {i : Nat} {vals : Array Value} (h : ∃ x y, us.toArray[i]? = some x ∧ ws.toArray[i]? = some y ∧ vals = #[x, y]) : ∃ vs, Vals vs vals.toList ∧ zpG xs ys H i vs ∧ vs.length ≤ 1000 := by
  obtain ⟨x, y, e1, e2, rfl⟩ := h
  have f1 : us[i]? = some x := by simpa using e1
  have f2 : ws[i]? = some y := by simpa using e2
  have l1 : i < xs.length := by rw [r1.length]; exact (List.getElem?_eq_some_iff.mp f1).1
  have l2 : i < ys.length := by rw [r2.length]; exact (List.getElem?_eq_some_iff.mp f2).1
  obtain ⟨u, hu, ru⟩ := r1.get (List.getElem?_eq_getElem l1)
  obtain ⟨v, hv, rv⟩ := r2.get (List.getElem?_eq_getElem l2)
  rw [f1] at hu; cases hu; rw [f2] at hv; cases hv
  exact ⟨[xs[i], ys[i]], .cons ru (.cons rv .nil), ⟨_, _, List.getElem?_eq_getElem l1, List.getElem?_eq_getElem l2, rfl⟩, by show 2 ≤ 1000; decide⟩
theorem zp_src {X : Cx} {pins : List (Addr × Obj)} {σ : L2.St} {H : Hp} {s : Shared} {t1 t2 : Bool} {a b : Addr} {xs ys : List V} (I : Inv X pins σ H s) (h : sqH t1 X.K H a xs ∧ sqH t2 X.K H b ys) :
    ∃ y : List Value × List Value, (y.1.length = xs.length ∧ y.2.length = ys.length ∧ Vals xs y.1 ∧ Vals ys y.2) ∧ sqSc t1 s.heap a y.1.toArray ∧ sqSc t2 s.heap b y.2.toArray := by
  obtain ⟨us, r1, p1, _⟩ := sq_its t1 I h.1
  obtain ⟨ws, r2, p2, _⟩ := sq_its t2 I h.2
  exact ⟨(us, ws), ⟨r1.length.symm, r2.length.symm, r1, r2⟩, p1, p2⟩
theorem zp_obj {h : Heap} {q ti to i1 i2 : Addr} {a b : Addr} {t1 t2 bb : Bool} {i : Nat} {x y : Value} (z1 : ZipB bb h q ti to .none) (z2 : IsTupOf2 h ti (.ref i1) (.ref i2)) (z3 : IsTupOf2 h to x y) (z4 : sqIt t1 h i1 a i) (z5 : sqIt t2 h i2 b i) : ∀ c ∈ [q, ti, to, i1, i2], ∃ o, h.get? c = some o ∧ ∀ v, o.data ≠ .cell v := fun c hc => by
  simp only [List.mem_cons, List.not_mem_nil, or_false] at hc
  rcases hc with rfl | rfl | rfl | rfl | rfl
  · exact ⟨_, z1, fun v q => nomatch q⟩
  · exact ⟨_, z2, fun v q => nomatch q⟩
  · exact ⟨_, z3, fun v q => nomatch q⟩
  · exact sq_obj t1 z4
  · exact sq_obj t2 z5
abbrev zpStS (N a b : Addr) (t1 t2 : Bool) (i : Nat) (h : Heap) : Prop := (ZipB true h (N + 4) (N + 2) (N + 3) .none ∧ IsTupOf2 h (N + 2) (.ref N) (.ref (N + 1))) ∧ (∃ x y, IsTupOf2 h (N + 3) x y) ∧ sqIt t1 h N a i ∧ sqIt t2 h (N + 1) b i
theorem turn_zpS {P : Program} {w : World} {K : PySem.W.Frag} {elts : List Expr} {kk : Nat} {tpos : Pos} {N a b : Addr} {xs ys : List V} {t1 t2 : Bool} (ha : a < N) (hb : b < N) (hl : xs.length = ys.length) :
    Turn P w K (.Tuple elts kk tpos) (ItZ K t1 t2 a b xs ys) [N + 4, N + 2, N + 3, N, N + 1] (N + 4) (zpStS N a b t1 t2) :=
  turn_T (Y := {y : List Value × List Value // y.2.length = y.1.length}) (Sc := fun y h => sqSc t1 h a y.1.1.toArray ∧ sqSc t2 h b y.1.2.toArray) (nY := fun y => y.1.1.toArray.size)
    (W := fun y A hh => walks_zipS hh (zip_sep2 (N := N) (fp1 := [a]) (fp2 := [b]) (by simpa using ha) (by simpa using hb)) (sq_draws (A := A.in1) hh t1 N a (Nat.ne_of_lt ha) y.1.1.toArray) (sq_drawsN (A := A.in1) hh t2 (N + 1) b (Nat.ne_of_lt (Nat.lt_succ_of_lt hb)) y.1.2.toArray y.1.1.toArray.size (by simpa using y.2)))
    (fun _ i h x y => ⟨x.1.1, x.1.2, x.2.1, ⟨x.2.2.1, y.1⟩, ⟨x.2.2.2, y.2⟩⟩) (fun _ i h x => ⟨⟨x.1, x.2.1⟩, x.2.2.1, x.2.2.2.1.1, x.2.2.2.2.1⟩) (by simp)
    (fun i h ⟨⟨z1, z2⟩, ⟨x, y, z3⟩, z4, z5⟩ => zp_obj z1 z2 z3 z4 z5)
    (fun i h h' ⟨⟨z1, z2⟩, ⟨x, y, z3⟩, z4, z5⟩ k => ⟨⟨k _ (by simp) _ z1, k _ (by simp) _ z2⟩, ⟨x, y, k _ (by simp) _ z3⟩, sq_at t1 z4 fun o q => k _ (by simp) o q, sq_at t2 z5 fun o q => k _ (by simp) o q⟩)
    (fun X pins σ H s hP hw hK I hz => by
      subst hP hw hK
      obtain ⟨y, ⟨l1, l2, r1, r2⟩, p1, p2⟩ := zp_src I hz
      exact ⟨⟨y, by omega⟩, ⟨p1, p2⟩, (by show y.1.toArray.size = _; simp only [List.size_toArray]; omega), fun i vals _ h => zp_val r1 r2 h⟩)
    (fun A i s Q E h q => iter_zipS h.1.1 q)
abbrev zpStP (N a b : Addr) (t1 t2 : Bool) (i : Nat) (h : Heap) : Prop := (ZipB false h (N + 4) (N + 2) (N + 3) .none ∧ IsTupOf2 h (N + 2) (.ref N) (.ref (N + 1))) ∧ (∃ x y, IsTupOf2 h (N + 3) x y) ∧ sqIt t1 h N a i ∧ sqIt t2 h (N + 1) b i
theorem turn_zpP {P : Program} {w : World} {K : PySem.W.Frag} {elts : List Expr} {kk : Nat} {tpos : Pos} {N a b : Addr} {xs ys : List V} {t1 t2 : Bool} (ha : a < N) (hb : b < N) :
    Turn P w K (.Tuple elts kk tpos) (ItZ K t1 t2 a b xs ys) [N + 4, N + 2, N + 3, N, N + 1] (N + 4) (zpStP N a b t1 t2) :=
  turn_T (Y := List Value × List Value) (Sc := fun y h => sqSc t1 h a y.1.toArray ∧ sqSc t2 h b y.2.toArray) (nY := fun y => min y.1.toArray.size y.2.toArray.size)
    (W := fun y A hh => walks_zipP (zip_sep2 (N := N) (fp1 := [a]) (fp2 := [b]) (by simpa using ha) (by simpa using hb)) (sq_draws (A := A.in1) hh t1 N a (Nat.ne_of_lt ha) y.1.toArray) (sq_draws (A := A.in1) hh t2 (N + 1) b (Nat.ne_of_lt (Nat.lt_succ_of_lt hb)) y.2.toArray))
    (fun _ i h x y => ⟨x.1.1, x.1.2, x.2.1, ⟨x.2.2.1, y.1⟩, ⟨x.2.2.2, y.2⟩⟩) (fun _ i h x => ⟨⟨x.1, x.2.1⟩, x.2.2.1, x.2.2.2.1.1, x.2.2.2.2.1⟩) (by simp)
    (fun i h ⟨⟨z1, z2⟩, ⟨x, y, z3⟩, z4, z5⟩ => zp_obj z1 z2 z3 z4 z5)
    (fun i h h' ⟨⟨z1, z2⟩, ⟨x, y, z3⟩, z4, z5⟩ k => ⟨⟨k _ (by simp) _ z1, k _ (by simp) _ z2⟩, ⟨x, y, k _ (by simp) _ z3⟩, sq_at t1 z4 fun o q => k _ (by simp) o q, sq_at t2 z5 fun o q => k _ (by simp) o q⟩)
    (fun X pins σ H s hP hw hK I hz => by
      subst hP hw hK
      obtain ⟨y, ⟨l1, l2, r1, r2⟩, p1, p2⟩ := zp_src I hz
      exact ⟨y, ⟨p1, p2⟩, (by show min y.1.toArray.size y.2.toArray.size = _; simp only [List.size_toArray]; omega), fun i vals _ h => zp_val r1 r2 h⟩)
    (fun A i s Q E h q => wpAny_pyIter_zip h.1.1 q)
def iZp (K : PySem.W.Frag) (st : Bool) (ta : TA) : TI := fun σ H R => ta σ H fun us H1 => ∃ t1 t2 a b xs ys, us = [.ref a, .ref b] ∧ sqH t1 K H1 a xs ∧ sqH t2 K H1 b ys ∧ (st = true → xs.length = ys.length) ∧ R (ItZ K t1 t2 a b xs ys) H1
section
variable {X : Cx} {e e2 : Expr} {ta : TA} {wa : WA} {p pos tpos kp kp2 : Pos} {elts : List Expr} {kk kj : Nat}
theorem fp_new {pins : List (Addr × Obj)} {σ : L2.St} {H : Hp} {s : Shared} (I : Inv X pins σ H s) : ∀ c ∈ [s.heap.objs.size + 4, s.heap.objs.size + 2, s.heap.objs.size + 3, s.heap.objs.size, s.heap.objs.size + 1], FpOk X pins H c := fun c hc => by
  have le : s.heap.objs.size ≤ c := by
    simp only [List.mem_cons, List.not_mem_nil, or_false] at hc
    rcases hc with z | z | z | z | z <;> omega
  exact I.fpOk le (I.hok.fresh le)
theorem pi_zpP (hg : Gl X "zip") (hm : X.mg "zip" = none) (ha : PA X [e, e2] ta) (hs : starEach [e, e2] X.env = (false, eval e X.env) :: starEach [e2] X.env) (hp : (backTo pos (starEach [e2] X.env)).any (·.1) = false) :
    PI X (.Tuple elts kk tpos) (.Call (.Name "zip" p) [e, e2] [] pos) (iZp X.K false ta) := by
  refine ⟨fun pins s σ H R I h => Call_ (ld_blt I hg hm boot_zip (PyProof.Rows.callWith_type1 (thn (ha.run pos pins s σ H _ I h) fun us s1 ⟨vs, H1, I1, r1, q1⟩ => ?_) hs hp))⟩
  obtain ⟨t1, t2, a, b, xs, ys, rfl, h1, h2, -, q⟩ := q1
  cases r1 with
  | cons r rr =>
    cases rr with
    | cons r' rr =>
      cases rr; cases r; cases r'
      obtain ⟨us, _, p1, l1⟩ := sq_its t1 I1 h1
      obtain ⟨ws, _, p2, l2⟩ := sq_its t2 I1 h2
      refine zip_begins2 (sq_begins t1 a _) (sq_begins t2 b _) p1 p2 fun g z1 z2 z3 e1 e2 _ hk => wpAny_pyIter_zip z1 ?_
      exact ⟨s1.heap.objs.size + 4, _, _, _, H1, rfl, I1.kept (t' := s1.toks) hk, turn_zpP l1 l2, ⟨⟨z1, z2⟩, ⟨_, _, z3⟩, sq_it t1 e1, sq_it t2 e2⟩, fp_new I1, q⟩
theorem pi_zpS (hg : Gl X "zip") (hm : X.mg "zip" = none) (ha : PA X [e, e2] ta) (hs : backTo pos (starEach [e, e2] X.env) = (false, eval e X.env) :: backTo pos (starEach [e2] X.env)) (hp : (backTo pos (starEach [e, e2] X.env)).any (·.1) = false) :
    PI X (.Tuple elts kk tpos) (.Call (.Name "zip" p) [e, e2] [⟨some "strict", .Constant (.bool true) kj kp, kp2⟩] pos) (iZp X.K true ta) := by
  refine ⟨fun pins s σ H R I h => wpAny_Call_Name_kw (ld_blt I hg hm boot_zip (cw_kw (thn (ha.run pos pins s σ H _ I h) fun us s1 ⟨vs, H1, I1, r1, q1⟩ => ?_) hs hp rfl rfl))⟩
  obtain ⟨t1, t2, a, b, xs, ys, rfl, h1, h2, hl, q⟩ := q1
  refine kws_cons (Constant_bool (evalAll_nil ?_))
  cases r1 with
  | cons r rr =>
    cases rr with
    | cons r' rr =>
      cases rr; cases r; cases r'
      obtain ⟨us, _, p1, l1⟩ := sq_its t1 I1 h1
      obtain ⟨ws, _, p2, l2⟩ := sq_its t2 I1 h2
      refine zip_beginsS (sq_begins t1 a _) (sq_begins t2 b _) p1 p2 fun g z1 z2 z3 e1 e2 hk => iter_zipS z1 ?_
      exact ⟨s1.heap.objs.size + 4, _, _, _, H1, rfl, I1.kept (t' := s1.toks) hk, turn_zpS l1 l2 (hl rfl), ⟨⟨z1, z2⟩, ⟨_, _, z3⟩, sq_it t1 e1, sq_it t2 e2⟩, fp_new I1, q⟩
/-! data -/
def seqD : D → Option (List D)
  | .list ds => some ds
  | .tuple ds => some ds
  | _ => none
def zipD (ds es : List D) : List (List D) := List.zipWith (fun a b => [a, b]) ds es
theorem zipD_len (ds es : List D) : (zipD ds es).length = min ds.length es.length := by unfold zipD; rw [List.length_zipWith]
theorem zipD_get {ds es : List D} {i : Nat} {r : List D} (h : (zipD ds es)[i]? = some r) : ∃ a b, ds[i]? = some a ∧ es[i]? = some b ∧ r = [a, b] := by
  unfold zipD at h
  rw [List.getElem?_zipWith] at h
  cases h1 : ds[i]? with
  | none => rw [h1] at h; simp at h
  | some a =>
    cases h2 : es[i]? with
    | none => rw [h1, h2] at h; simp at h
    | some b => rw [h1, h2] at h; simp at h; exact ⟨a, b, rfl, rfl, h.symm⟩
def wZip (st : Bool) (wa : WA) : WI := fun η Q => wa η fun ds => match ds with
  | [x, y] => match seqD x, seqD y with
    | some xs, some ys => (st = true → xs.length = ys.length) ∧ Q ((zipD xs ys).map PyData.tuple)
    | _, _ => False
  | _ => False
theorem sq_dt {K : PySem.W.Frag} {F : Hp} {v : V} {d : D} {xs : List D} (h : Dt K F v d) (e : seqD d = some xs) : ∃ t a vs, v = .ref a ∧ (∀ {F' H' : Hp} {sx : Sx}, Same F F' → Base sx F' H' → sqH t K H' a vs) ∧ DtL K F vs xs := by
  cases h <;> first | (cases e; done) | skip
  · rename_i h1 h2; cases e; exact ⟨false, _, _, rfl, fun s b => SqL.of (b.le _ _ (s _ _ h1)), h2⟩
  · rename_i h1 h2; cases e; exact ⟨true, _, _, rfl, fun s b => SqT.of (b.le _ _ (s _ _ h1)), h2⟩
theorem zp_dt {K : PySem.W.Frag} {F F' : Hp} {xs ys : List V} {ds es : List D} (h1 : DtL K F xs ds) (h2 : DtL K F ys es) (s : Same F F') {H : Hp} {i : Nat} {vs : List V} {r : List D} (he : (zipD ds es)[i]? = some r) (g : zpG xs ys H i vs) : DtL K F' vs r := by
  obtain ⟨d, e, hd, he2, rfl⟩ := zipD_get he
  obtain ⟨x, y, hx, hy, rfl⟩ := g
  obtain ⟨v, hv, w1⟩ := h1.get i hd
  obtain ⟨u, hu, w2⟩ := h2.get i he2
  rw [hx] at hv; cases hv; rw [hy] at hu; cases hu
  exact .cons (w1.mono s) (.cons (w2.mono s) .nil)
theorem zp_sem {K : PySem.W.Frag} {st : Bool} (h : SemB K ta wa) : SemI K (iZp K st ta) (wZip st wa) := fun {sx H0 F0 F σ H η Q R} r hw k => h r hw fun ds vs F1 H1 q e hd => by
  match ds, hd, q with
  | [x, y], .cons d1 (.cons d2 .nil), q =>
    cases e1 : seqD x with
    | none => simp only [e1] at q
    | some xs =>
      cases e2 : seqD y with
      | none => simp only [e1, e2] at q
      | some ys =>
        simp only [e1, e2] at q
        obtain ⟨t1, a, us, rfl, s1, l1⟩ := sq_dt d1 e1
        obtain ⟨t2, b, ws, rfl, s2, l2⟩ := sq_dt d2 e2
        refine ⟨t1, t2, a, b, us, ws, rfl, s1 (Same.refl _) (r.ext e).base, s2 (Same.refl _) (r.ext e).base, fun z => by rw [l1.length, l2.length]; exact q.1 z, k _ _ F1 H1 q.2 e (it_T ?_ (fun F' H' s b => ⟨s1 s b, s2 s b⟩) fun s b he g => ⟨_, .refl b, zp_dt l1 l2 s he g⟩)⟩
        rw [zipD_len, l1.length, l2.length]
theorem di_zpP (hg : Gl X "zip") (hm : X.mg "zip" = none) (ha : DB X [e, e2] ta wa) (hs : starEach [e, e2] X.env = (false, eval e X.env) :: starEach [e2] X.env := by rfl) (hp : (backTo pos (starEach [e2] X.env)).any (·.1) = false := by rfl) :
    DI X (.Tuple elts kk tpos) (.Call (.Name "zip" p) [e, e2] [] pos) (iZp X.K false ta) (wZip false wa) := ⟨pi_zpP hg hm ha.pa hs hp, zp_sem ha.sem⟩
theorem di_zpS (hg : Gl X "zip") (hm : X.mg "zip" = none) (ha : DB X [e, e2] ta wa) (hs : backTo pos (starEach [e, e2] X.env) = (false, eval e X.env) :: backTo pos (starEach [e2] X.env) := by rfl) (hp : (backTo pos (starEach [e, e2] X.env)).any (·.1) = false := by rfl) :
    DI X (.Tuple elts kk tpos) (.Call (.Name "zip" p) [e, e2] [⟨some "strict", .Constant (.bool true) kj kp, kp2⟩] pos) (iZp X.K true ta) (wZip true wa) := ⟨pi_zpS hg hm ha.pa hs hp, zp_sem ha.sem⟩
end
end W2

set_option Elab.async false
set_option linter.all false
set_option maxRecDepth 100000
/-! W2AL: dict(pairs) with tuples as keys; total += i; [x] * n; zip, K given apart. -/
namespace W2
open PySem PySem.Spec PyProof.Rows L2
section
variable {X : Cx} {pins : List (Addr × Obj)} {σ : L2.St} {H : Hp} {s : Shared}
/-- pairs, their keys tracked tuples -/
def PrT (K : PySem.W.Frag) (H : Hp) (p : Addr) (kv : List Key × V) : Prop := ∃ b, SqT K H p [.ref b, kv.2] ∧ H b = some (.tup (kv.1.map kV))
theorem prT_of (I : Inv X pins σ H s) : ∀ {ps : List Addr} {kvs : List (List Key × V)}, Paired (PrT X.K H) ps kvs →
    ∃ prs : List (List Key × Addr × Value), KT H kvs prs ∧ prs.length = ps.length ∧ ∀ (j : Nat) (q : List Key × Addr × Value), prs[j]? = some q → ∃ b, ps[j]? = some b ∧ s.heap.IsTuple b #[.ref q.2.1, q.2.2]
  | _, _, .nil => ⟨[], .nil, rfl, fun j q e => by simp at e⟩
  | _, _, .cons (a := p) (b := kv) h t => by
    obtain ⟨prs, r, hl, hp⟩ := prT_of I t
    obtain ⟨c, h1, h2⟩ := h
    obtain ⟨its, rv, ht, _⟩ := I.tuple h1
    obtain ⟨u, y, ei, ru, ry⟩ := vals2 rv
    cases ru
    subst ei
    refine ⟨(kv.1, c, y) :: prs, .cons ⟨rfl, h2, ry⟩ r, by rw [List.length_cons, List.length_cons, hl], fun j q e => ?_⟩
    cases j with
    | zero => have e' : (kv.1, c, y) = q := Option.some.inj e; subst e'; exact ⟨p, rfl, ht⟩
    | succ j => obtain ⟨b, e1, e2⟩ := hp j q (by simpa using e); exact ⟨b, by simpa using e1, e2⟩
theorem kt_all : ∀ {kvs : List (List Key × V)} {prs : List (List Key × Addr × Value)} {acc : List (List Key × V)} {bcc : List (List Key × Addr × Value)}, KT H kvs prs → KT H acc bcc →
    KT H (kvs.foldl (fun a kv => putK a kv.1 kv.2) acc) (storedAllH bcc prs)
  | _, _, _, _, .nil, h => h
  | _, _, acc, bcc, .cons (a := kv) (b := q) hx t, h => by
    obtain ⟨e, hb, hv⟩ := hx
    have z := KT.put h kv.1 hb hv
    have z2 : storedH bcc kv.1 q.2.1 q.2.2 = storedH bcc q.1 q.2.1 q.2.2 := by rw [e]
    rw [z2] at z
    exact kt_all (acc := putK acc kv.1 kv.2) (bcc := storedH bcc q.1 q.2.1 q.2.2) t z
theorem putK_len {κ : Type} [DecidableEq κ] (l : List (κ × V)) (k : κ) (v : V) : (putK l k v).length ≤ l.length + 1 := by
  unfold putK
  split <;> simp
theorem foldK_len {κ : Type} [DecidableEq κ] : ∀ (kvs acc : List (κ × V)), (kvs.foldl (fun a kv => putK a kv.1 kv.2) acc).length ≤ acc.length + kvs.length
  | [], acc => Nat.le_refl _
  | kv :: kvs, acc => by
    have h := foldK_len kvs (putK acc kv.1 kv.2)
    have h2 := putK_len acc kv.1 kv.2
    rw [List.length_cons]
    exact Nat.le_trans h (by omega)
def rDictT (K : PySem.W.Frag) : List V → Hp → VK → Prop := fun xs H Q => ∃ (a : Addr) (ps : List Addr) (kvs : List (List Key × V)), xs = [.ref a] ∧ SqL K H a (ps.map V.ref) ∧ Paired (PrT K H) ps kvs ∧ ∀ p, H p = none → Q (.ref p) (upd H p (.dT (kvs.foldl (fun a kv => putK a kv.1 kv.2) [])))
theorem cr_dictT (hc : X.calm = true) (hu : X.A.units + 64 < cLine) : CallR X (.type "dict") (rDictT X.K) := by
  intro pins s σ H xs us Q I r q
  obtain ⟨a, ps, kvs, rfl, hq, hp, q⟩ := q
  obtain ⟨u, rfl, rx⟩ := vals1 r
  cases rx
  obtain ⟨its, rv, pl, hz⟩ := I.list hq
  have ei := refs_at rv
  subst ei
  rw [List.length_map] at hz
  obtain ⟨prs, kt, hl, hpr⟩ := prT_of I hp
  obtain ⟨o, n, ho, hcl, hd, hdat⟩ := pl
  have hm : (s.heap.objs.size == sysModules) = false := beq_eq_false_iff_ne.mpr (Nat.ne_of_gt I.big)
  have iskey : ∀ x ∈ prs, ∃ k, H x.2.1 = some (.tup (x.1.map kV)) := fun x hx => by
    have all : ∀ {l : List (List Key × V)} {m : List (List Key × Addr × Value)}, KT H l m → ∀ x ∈ m, H x.2.1 = some (.tup (x.1.map kV)) := by
      intro l m q
      induction q with
      | nil => intro x hx; exact nomatch hx
      | @cons p q ps qs hq t ih =>
        intro x hx
        rcases List.mem_cons.mp hx with e | hx
        · subst e; rw [← hq.1]; exact hq.2.1
        · exact ih x hx
    exact ⟨0, all kt x hx⟩
  refine call_dict_pairsH (knd := tupleKind (mixKind X.prog X.w)) (ps := prs) (PairArg.list a (ps.map Value.ref).toArray (fun j => (ps[j]?).getD 0) (prs.map fun q => (Value.ref q.2.1, q.2.2))) (I.ok.hd hc) (show X.A.units + 1 + 1 < cLine by omega) ⟨⟨o, n, ho, hcl, hd, hdat⟩, by simp [hl], fun j k v e => ?_⟩
    ⟨by simp, fun i key v e => ?_⟩ (fun g hk x hx => ?_) (by simp [hl]; exact hz) fun g tk hd' k => ?_
  · rw [List.getElem?_map] at e
    cases e1 : prs[j]? with
    | none => rw [e1] at e; cases e
    | some q' =>
      rw [e1] at e; cases e
      obtain ⟨b, e2, e3⟩ := hpr j q' e1
      exact ⟨by simp [e2], .inl (by simpa [e2] using e3)⟩
  · have e : (prs.map fun q => (Value.ref q.2.1, q.2.2))[i]? = some (key, v) := e
    rw [List.getElem?_map] at e
    cases e1 : prs[i]? with
    | none => rw [e1] at e; cases e
    | some q' => rw [e1] at e; cases e; exact ⟨q'.1, q'.2.1, rfl, rfl⟩
  · obtain ⟨_, hx'⟩ := iskey x hx
    obtain ⟨oo, vs, m, h1, h2⟩ := key_of (P := X.prog) (w := X.w) I.hok hx'
    exact ⟨oo, vs, m, hk _ _ (Nat.ne_of_lt (Heap.lt_size h1)) (fun z => nomatch z) h1, h2⟩
  · have kt' : KT H (kvs.foldl (fun a kv => putK a kv.1 kv.2) []) (storedAllH [] prs) := kt_all kt .nil
    have hlen : (kvs.foldl (fun a kv => putK a kv.1 kv.2) []).length ≤ sizeLine := by
      refine Nat.le_trans (foldK_len kvs []) ?_
      rw [List.length_nil, Nat.zero_add, Paired.length kt, hl]
      exact hz
    have fr := I.hok.fresh (Nat.le_refl s.heap.objs.size)
    obtain ⟨oo, es, ep, h1, h2, h3, h4, _, h5⟩ := hd'
    exact ⟨.ref s.heap.objs.size, upd H s.heap.objs.size (.dT _), I.laid (t' := tk) (fun b o z => k b o (fun z => nomatch z) z) (Nat.le_refl _) (show ObjOk X.prog X.w _ _ _ (.dT _) from ⟨hlen, hm, storedAllH [] prs, kt'.keeps fun b ys e => by rw [upd_ne (ne_of_none e fr)]; exact e, oo, es, ep, h1, h2, h3, h4, h5⟩), rfl, q _ fr⟩
end
/-! data -/
def flatsOf : List D → Option (List Key)
  | [] => some []
  | .int i :: r => (flatsOf r).map (.inl i :: ·)
  | .str x :: r => (flatsOf r).map (.inr x :: ·)
  | _ => none
theorem flatsOf_eq : ∀ {ds : List D} {ks : List Key}, flatsOf ds = some ks → ds = ks.map kD
  | [], _, e => by cases e; rfl
  | d :: r, ks, e => by
    cases q : flatsOf r with
    | none => cases d <;> simp [flatsOf, q] at e
    | some l =>
      have z := flatsOf_eq q
      cases d <;> simp [flatsOf, q] at e
      · subst e; rw [z]; rfl
      · subst e; rw [z]; rfl
def pairsT : List D → Option (List (List Key × D))
  | [] => some []
  | .tuple [.tuple ks, v] :: r => match flatsOf ks, pairsT r with
    | some k, some l => some ((k, v) :: l)
    | _, _ => none
  | _ => none
def mergeT (kvs : List (List Key × D)) : List (D × D) := kvs.foldl (fun acc kv => dPut acc (.tuple (kv.1.map kD)) kv.2) []
theorem pairsT_dt {K : PySem.W.Frag} {F H : Hp} (le : Same F H) : ∀ {ds : List D} {vs : List V} {kvs : List (List Key × D)}, DtL K F vs ds → pairsT ds = some kvs → ∃ (ps : List Addr) (kvv : List (List Key × V)), vs = ps.map V.ref ∧ Paired (PrT K H) ps kvv ∧ Paired (fun (x : List Key × V) (y : List Key × D) => x.1 = y.1 ∧ Dt K F x.2 y.2) kvv kvs
  | [], _, _, .nil, e => by cases e; exact ⟨[], [], rfl, .nil, .nil⟩
  | d :: ds, _, kvs, .cons (v := v0) (vs := vs0) h t, e => by
    unfold pairsT at e
    split at e
    · rename_i heq; cases heq
    · rename_i ks v r heq
      cases heq
      split at e
      · rename_i k l e1 e2
        cases e
        obtain ⟨ps, kvv, h1, h2, h3⟩ := pairsT_dt le t e2
        have ek := flatsOf_eq e1
        subst ek
        cases h with
        | tup h4 h5 =>
          cases h5 with
          | cons a1 a2 =>
            cases a2 with
            | cons a3 a4 =>
              cases a4
              cases a1 with
              | tup b1 b2 =>
                have ev := b2.keysV
                subst ev
                exact ⟨_ :: ps, (k, _) :: kvv, by rw [List.map_cons, h1], .cons ⟨_, SqT.of (le _ _ h4), le _ _ b1⟩ h2, .cons ⟨rfl, a3⟩ h3⟩
      · cases e
    · cases e
theorem mergeT_dt {K : PySem.W.Frag} {F : Hp} : ∀ {kvv : List (List Key × V)} {kvs : List (List Key × D)} {acc : List (List Key × V)} {es : List (D × D)}, Paired (fun (x : List Key × V) (y : List Key × D) => x.1 = y.1 ∧ Dt K F x.2 y.2) kvv kvs → DtT K F acc es →
    DtT K F (kvv.foldl (fun acc kv => putK acc kv.1 kv.2) acc) (kvs.foldl (fun acc kv => dPut acc (.tuple (kv.1.map kD)) kv.2) es)
  | _, _, _, _, .nil, h => h
  | _, _, acc, es, .cons (a := x) (b := y) hx t, h => by
    obtain ⟨e, hv⟩ := hx
    refine mergeT_dt t (acc := putK acc x.1 x.2) (es := dPut es (.tuple (y.1.map kD)) y.2) ?_
    rw [← e]
    exact h.put hv
def rDictX (K : PySem.W.Frag) : List V → Hp → VK → Prop := fun xs H Q => rDictA K xs H Q ∨ rDictT K xs H Q
theorem cr_dictX {X : Cx} (K : PySem.W.Frag) (hK : X.K = K) (hc : X.calm = true) (hu : X.A.units + 64 < cLine) : CallR X (.type "dict") (rDictX K) := by
  subst hK
  exact CallR.or (cr_dict hc) (cr_dictT hc hu)
def gDictX : List D → (D → Prop) → Prop := fun ds Q => gDictA ds Q ∨ ∃ es kvs, ds = [.list es] ∧ pairsT es = some kvs ∧ Q (.dict (mergeT kvs))
theorem cs_dictX {K : PySem.W.Frag} : CSemD K (rDictX K) gDictX := fun {sx F H vs ds Q R} b h hg k => by
  rcases hg with hg | ⟨es, kvs, rfl, e, q⟩
  · exact .inl (cs_dict b h hg k)
  · obtain ⟨v, rfl, hv⟩ := Nws.one h
    obtain ⟨a, xs, rfl, h1, h2⟩ := hv.list b.le
    obtain ⟨ps, kvv, rfl, h3, h4⟩ := pairsT_dt b.le h2 e
    exact .inr ⟨a, ps, kvv, rfl, SqL.of h1, h3, fun p hp => k.new b q hp (.inr ⟨_, upd_same, mergeT_dt h4 .nil⟩)⟩
/-! total += i -/
abbrev gAddI := gI fun i j => .int (i + j)
theorem rs_addI {K : PySem.W.Frag} : RSem K (rI0 fun i j => .int (i + j)) gAddI := rs_I fun _ _ _ => .int _
/-! [x] * n -/
def gRepL : D → D → (D → Prop) → Prop
  | .list ds, .int k, Q => ds.length ≤ 1000 ∧ -1000 ≤ k ∧ k ≤ 1000 ∧ Q (.list (List.replicate k.toNat ds).flatten)
  | _, _, _ => False
theorem rs_repL {K : PySem.W.Frag} : RSemL K rRep gRepL := fun {sx F H x y dx dy Q R} b hx hy hg k => by
  cases dx <;> cases dy <;> first | exact hg.elim | skip
  rename_i ds i
  obtain ⟨l1, l2, l3, q⟩ := hg
  obtain ⟨a, xs, rfl, h1, h2⟩ := hx.list b.le
  cases hy.int
  refine ⟨a, i, xs, rfl, rfl, h1, by omega, by omega, ?_, k.new b q (h2.rep _)⟩
  rw [h2.length]
  have : ds.length * i.toNat ≤ 1000 * 1000 := Nat.mul_le_mul l1 (by omega)
  exact Nat.le_trans this (by rw [sizeLine_eq]; decide)
section
variable {X : Cx} (K : PySem.W.Frag) (hK : X.K = K) {e e2 : Expr} {ta : TA} {wa : WA} {p pos tpos kp kp2 : Pos} {elts : List Expr} {kk kj : Nat}
include hK
theorem di_zpPK (hg : Gl X "zip") (hm : X.mg "zip" = none) (ha : DB X [e, e2] ta wa) (hs : starEach [e, e2] X.env = (false, eval e X.env) :: starEach [e2] X.env := by rfl) (hp : (backTo pos (starEach [e2] X.env)).any (·.1) = false := by rfl) :
    DI X (.Tuple elts kk tpos) (.Call (.Name "zip" p) [e, e2] [] pos) (iZp K false ta) (wZip false wa) := by subst hK; exact di_zpP hg hm ha hs hp
theorem di_zpSK (hg : Gl X "zip") (hm : X.mg "zip" = none) (ha : DB X [e, e2] ta wa) (hs : backTo pos (starEach [e, e2] X.env) = (false, eval e X.env) :: backTo pos (starEach [e2] X.env) := by rfl) (hp : (backTo pos (starEach [e, e2] X.env)).any (·.1) = false := by rfl) :
    DI X (.Tuple elts kk tpos) (.Call (.Name "zip" p) [e, e2] [⟨some "strict", .Constant (.bool true) kj kp, kp2⟩] pos) (iZp K true ta) (wZip true wa) := by subst hK; exact di_zpS hg hm ha hs hp
theorem dd_callTK {T : String} {r : List V → Hp → VK → Prop} {g : List D → (D → Prop) → Prop} {x : Str} {es : List Expr} (hc : CallR X (.type T) r) (hs : CSemD K r g) (hv : bootBuiltins x = some (.type T)) (hg : Gl X x) (hm : X.mg x = none) (ha : DA X (e :: es) ta wa) (hn : x ≠ "__name__" := by decide) (hdb : (x == ("__debug__" : Str)) = false := by decide)
    (he : starEach (e :: es) X.env = (false, eval e X.env) :: starEach es X.env := by rfl) (hpl : (backTo pos (starEach es X.env)).any (·.1) = false := by rfl) : DD X (.Call (.Name x p) (e :: es) [] pos) (tCB r ta) (wCall g wa) := by subst hK; exact dd_callT hc hs hv hg hm ha hn hdb he hpl
end
/-! sum of a tuple of ints -/
section
variable {prog : Program} {w : World} {A : Around} {E : Value → Shared → Prop} {s : Shared} {l : Addr} {its : List Value} {ns : List Int} {Q : Value → Shared → Prop}
theorem sum_rawT (hh : A.handled = none) (hl : s.heap.IsTuple l its.toArray) (hi : IntsAre its ns) (h : ∀ g tk t, (∀ b o, s.heap.get? b = some o → g.get? b = some o) → Q (.int ns.sum t) { s with heap := g, toks := tk }) : wpAny (model prog w) A (call (.builtin "sum") [.ref l]) Q E s := by
  obtain ⟨xs, e⟩ := hi.allInts.items
  have hn : numsOf (intItems xs).toList = ns := by rw [← e]; exact hi.numsOf
  rw [nums_intItems] at hn
  rw [e] at hl
  have lt : l < s.heap.objs.size := by obtain ⟨_, z, _⟩ := hl; exact Heap.lt_size z
  have up : ∀ b o, s.heap.get? b = some o → (s.heap.push { cls := .type "tuple_iterator", data := .fields #[.ref l, .int 0 0] }).get? b = some o := fun b o z => Heap.get?_push_of_some _ z
  refine call_sum_walkG (wpAny_pyIter_tuple hl ⟨_, _, _, _, _, _, numAt xs, rfl, Walks.tuple (A := A.in1) hh _ l (Nat.ne_of_lt lt) (intItems xs), ⟨⟨_, Heap.get?_push_size _ rfl, rfl, rfl⟩, hl.at fun o z => up _ _ z⟩, fun b hb => ?_, (fun _ _ => intItems_at), fun g tk t hk => ?_⟩)
  · show b < (s.heap.push _).objs.size
    rw [Heap.size_push]
    simp only [List.mem_cons, List.not_mem_nil, or_false] at hb
    rcases hb with z | z
    · rw [z]; exact Nat.lt_succ_self _
    · rw [z]; exact Nat.lt_succ_of_lt lt
  · have q := h g tk t fun b o z => hk b o (fun m => by rw [List.mem_singleton] at m; exact absurd (Heap.lt_size z) (by rw [m]; exact Nat.lt_irrefl _)) (up b o z)
    rw [← hn] at q
    rw [preSum_eq, List.take_of_length_le (by simp [intItems])]
    exact q
end
def rSumT (K : PySem.W.Frag) : List V → Hp → VK → Prop := fun vs H Q => ∃ (a : Addr) (ns : List Int), vs = [V.ref a] ∧ SqT K H a (ns.map V.int) ∧ Q (.int ns.sum) H
theorem cr_sumT {X : Cx} (hc : X.calm = true) : CallR X (.builtin "sum") (rSumT X.K) := by
  intro pins s σ H vs us Q I r h
  obtain ⟨a, ns, rfl, hs, q⟩ := h
  obtain ⟨its, rv, hl, _⟩ := I.tuple hs
  rw [Vals.ref1 r]
  exact sum_rawT (I.ok.hd hc) hl rv.ints fun g tk t hk => ⟨.int _, H, I.kept hk, ⟨_, rfl⟩, q⟩
def rSumX (K : PySem.W.Frag) : List V → Hp → VK → Prop := fun xs H Q => rSum K xs H Q ∨ rSumT K xs H Q
theorem cr_sumX {X : Cx} (K : PySem.W.Frag) (hK : X.K = K) (hc : X.calm = true) : CallR X (.builtin "sum") (rSumX K) := by
  subst hK
  exact CallR.or (cr_sum hc) (cr_sumT hc)
theorem cs_sumX {K : PySem.W.Frag} : CSem K (rSumX K) gSum := fun {sx F H vs ds Q R} b h hg k => by
  unfold gSum at hg
  split at hg
  · obtain ⟨v, rfl, h1⟩ := Nws.one h
    obtain ⟨a, xs, rfl, h2, h3⟩ := h1.list b.le
    obtain ⟨ns, e, q⟩ := hg
    rw [intsOf_some e] at h3
    rw [h3.intsV] at h2
    exact .inl ⟨a, ns, rfl, SqL.of h2, k.now b q (.int _)⟩
  · obtain ⟨v, rfl, h1⟩ := Nws.one h
    obtain ⟨a, xs, rfl, h2, h3⟩ := h1.tupleH b.le
    obtain ⟨ns, e, q⟩ := hg
    rw [intsOf_some e] at h3
    rw [h3.intsV] at h2
    exact .inr ⟨a, ns, rfl, h2, k.now b q (.int _)⟩
  · exact hg.elim
end W2

set_option Elab.async false
set_option linter.all false
set_option maxRecDepth 100000
namespace K33
open PySem PySem.Spec PyProof.Rows L2 W2
/-! ### the text (printed by gen.py) -/
def topS (i : Nat) : Stmt := PySem.Challenge.pw_starpowers_k33_whole_points_of_frames.main.body.getD i (.Pass ⟨0, 0, 0, 0⟩)
abbrev s_heights_of_outs : Stmt := topS 10
abbrev s_outs_of_heights : Stmt := topS 11
abbrev s_with_one : Stmt := topS 7
abbrev s_outs_rows : Stmt := topS 8
abbrev s_points_of : Stmt := topS 12
abbrev s_worth_of : Stmt := topS 1
abbrev s_values_at : Stmt := topS 13
abbrev s_road_ends : Stmt := topS 14
abbrev s__law_source : Stmt := topS 16
abbrev s__law_pick : Stmt := topS 17
abbrev s__law_mixed : Stmt := topS 19
abbrev s__law_frame : Stmt := topS 20
abbrev s__law_points : Stmt := topS 21
abbrev s__law_free_lots : Stmt := topS 22
abbrev s__law_lots : Stmt := topS 23
abbrev s__law_cut : Stmt := topS 24
abbrev s__law_within : Stmt := topS 25
abbrev s__law_worth : Stmt := topS 27
abbrev s__law_of : Stmt := topS 18
abbrev s__law_told : Stmt := topS 26
abbrev s__law_any : Stmt := topS 28
abbrev s_law : Stmt := topS 29
theorem sc_heights_of_outs : FnScope ["outs"] ["outs"] (defScope s_heights_of_outs) := ⟨rfl, rfl, rfl, by decide +kernel, rfl, by decide +kernel, by decide +kernel⟩
theorem sc_outs_of_heights : FnScope ["frame", "heights"] ["frame", "heights"] (defScope s_outs_of_heights) := ⟨rfl, rfl, rfl, by decide +kernel, rfl, by decide +kernel, by decide +kernel⟩
theorem sc_with_one : FnScope ["outs", "crossing", "more", "place", "number"] ["outs", "crossing", "more"] (defScope s_with_one) := ⟨rfl, rfl, rfl, by decide +kernel, rfl, by decide +kernel, by decide +kernel⟩
theorem sc_outs_rows : FnScope ["frame", "found", "a", "b", "late", "row"] ["frame"] (defScope s_outs_rows) := ⟨rfl, rfl, rfl, by decide +kernel, rfl, by decide +kernel, by decide +kernel⟩
theorem sc_points_of : FnScope ["frame", "outs"] ["frame"] (defScope s_points_of) := ⟨rfl, rfl, rfl, by decide +kernel, rfl, by decide +kernel, by decide +kernel⟩
theorem sc_worth_of : FnScope ["poly", "heights", "total", "rises", "powers", "number", "rise", "power", "lap", "height"] ["poly", "heights"] (defScope s_worth_of) := ⟨rfl, rfl, rfl, by decide +kernel, rfl, by decide +kernel, by decide +kernel⟩
theorem sc_values_at : FnScope ["points", "poly", "heights"] ["points", "poly"] (defScope s_values_at) := ⟨rfl, rfl, rfl, by decide +kernel, rfl, by decide +kernel, by decide +kernel⟩
theorem sc_road_ends : FnScope ["frame", "crossing", "road"] ["frame"] (defScope s_road_ends) := ⟨rfl, rfl, rfl, by decide +kernel, rfl, by decide +kernel, by decide +kernel⟩
theorem sc__law_source : FnScope ["script", "mixed", "cell"] ["script"] (defScope s__law_source) := ⟨rfl, rfl, rfl, by decide +kernel, rfl, by decide +kernel, by decide +kernel⟩
theorem sc__law_pick : FnScope ["source", "many", "left", "mixed"] ["source", "many"] (defScope s__law_pick) := ⟨rfl, rfl, rfl, by decide +kernel, rfl, by decide +kernel, by decide +kernel⟩
theorem sc__law_mixed : FnScope ["source", "things", "rest", "lap"] ["source", "things"] (defScope s__law_mixed) := ⟨rfl, rfl, rfl, by decide +kernel, rfl, by decide +kernel, by decide +kernel⟩
theorem sc__law_frame : FnScope ["source", "most", "more", "n", "roads", "lap", "turned", "a", "b", "v"] ["source", "most", "more"] (defScope s__law_frame) := ⟨rfl, rfl, rfl, by decide +kernel, rfl, by decide +kernel, by decide +kernel⟩
theorem sc__law_points : FnScope ["frame", "found", "a", "b", "late", "row", "x"] ["frame"] (defScope s__law_points) := ⟨rfl, rfl, rfl, by decide +kernel, rfl, by decide +kernel, by decide +kernel⟩
theorem sc__law_free_lots : FnScope ["frame", "found", "road", "a", "b", "late", "lot", "heads", "one", "x", "y", "head"] ["frame"] (defScope s__law_free_lots) := ⟨rfl, rfl, rfl, by decide +kernel, rfl, by decide +kernel, by decide +kernel⟩
theorem sc__law_lots : FnScope ["n", "found", "crossing", "lot"] ["n"] (defScope s__law_lots) := ⟨rfl, rfl, rfl, by decide +kernel, rfl, by decide +kernel, by decide +kernel⟩
theorem sc__law_cut : FnScope ["frame", "lot", "a", "b"] ["frame", "lot"] (defScope s__law_cut) := ⟨rfl, rfl, rfl, by decide +kernel, rfl, by decide +kernel, by decide +kernel⟩
theorem sc__law_within : FnScope ["frame", "lot", "a", "b"] ["frame", "lot"] (defScope s__law_within) := ⟨rfl, rfl, rfl, by decide +kernel, rfl, by decide +kernel, by decide +kernel⟩
theorem sc__law_worth : FnScope ["poly", "heights", "total", "powers", "number", "c", "lap"] ["poly", "heights"] (defScope s__law_worth) := ⟨rfl, rfl, rfl, by decide +kernel, rfl, by decide +kernel, by decide +kernel⟩
theorem sc__law_of : FnScope ["source", "some"] ["source", "some"] (defScope s__law_of) := ⟨rfl, rfl, rfl, by decide +kernel, rfl, by decide +kernel, by decide +kernel⟩
theorem sc__law_told : FnScope ["numbers", "powers"] ["numbers"] (defScope s__law_told) := ⟨rfl, rfl, rfl, by decide +kernel, rfl, by decide +kernel, by decide +kernel⟩
theorem sc__law_any : FnScope ["source", "n", "degree", "found", "lap", "powers", "step", "c"] ["source", "n", "degree"] (defScope s__law_any) := ⟨rfl, rfl, rfl, by decide +kernel, rfl, by decide +kernel, by decide +kernel⟩
theorem sc_law : FnScope ["script", "source", "lap", "frame", "n", "m", "kept", "points", "point", "outs", "look", "heights", "fits", "lot", "low", "poly", "ends", "c", "pair", "a", "b"] ["script"] (defScope s_law) := ⟨rfl, rfl, rfl, by decide +kernel, rfl, by decide +kernel, by decide +kernel⟩
/-- the facts of the written part -/
structure Fs (K : PySem.W.Frag) (mg : Str → Option Value) where
  f_heights_of_outs : FnF K mg "heights_of_outs" s_heights_of_outs ["outs"]
  f_outs_of_heights : FnF K mg "outs_of_heights" s_outs_of_heights ["frame", "heights"]
  f_with_one : FnF K mg "with_one" s_with_one ["outs", "crossing", "more"]
  f_outs_rows : FnF K mg "outs_rows" s_outs_rows ["frame"]
  f_points_of : FnF K mg "points_of" s_points_of ["frame"]
  f_worth_of : FnF K mg "worth_of" s_worth_of ["poly", "heights"]
  f_values_at : FnF K mg "values_at" s_values_at ["points", "poly"]
  f_road_ends : FnF K mg "road_ends" s_road_ends ["frame"]
  f__law_source : FnF K mg "_law_source" s__law_source ["script"]
  f__law_pick : FnF K mg "_law_pick" s__law_pick ["source", "many"]
  f__law_mixed : FnF K mg "_law_mixed" s__law_mixed ["source", "things"]
  f__law_frame : FnF K mg "_law_frame" s__law_frame ["source", "most", "more"]
  f__law_points : FnF K mg "_law_points" s__law_points ["frame"]
  f__law_free_lots : FnF K mg "_law_free_lots" s__law_free_lots ["frame"]
  f__law_lots : FnF K mg "_law_lots" s__law_lots ["n"]
  f__law_cut : FnF K mg "_law_cut" s__law_cut ["frame", "lot"]
  f__law_within : FnF K mg "_law_within" s__law_within ["frame", "lot"]
  f__law_worth : FnF K mg "_law_worth" s__law_worth ["poly", "heights"]
  f__law_of : FnF K mg "_law_of" s__law_of ["source", "some"]
  f__law_told : FnF K mg "_law_told" s__law_told ["numbers"]
  f__law_any : FnF K mg "_law_any" s__law_any ["source", "n", "degree"]
  f_law : FnF K mg "law" s_law ["script"]
  n_abs : mg "abs" = none
  n_dict : mg "dict" = none
  n_enumerate : mg "enumerate" = none
  n_int : mg "int" = none
  n_len : mg "len" = none
  n_list : mg "list" = none
  n_max : mg "max" = none
  n_range : mg "range" = none
  n_repr : mg "repr" = none
  n_sorted : mg "sorted" = none
  n_sum : mg "sum" = none
  n_tuple : mg "tuple" = none
  n_zip : mg "zip" = none
  n_MOST_ROWS : ∃ t, mg "MOST_ROWS" = some (.int 8000 t)
section
variable {P : Program} {w : World} {K : PySem.W.Frag} {mg : Str → Option Value} {base : Heap}
def wb_heights_of_outs : WS :=
  wRet (wTup (wCons (wC (.int 0)) (wStar (wSl (wB 0) (wPart (wC (.int 1))) (wNoPart)) (wNil))))
theorem wk_heights_of_outs (Z : Fs K mg) {wf : WF} (hw : ∀ ds Q, ds.length = 1 → wf ds Q → wb_heights_of_outs { nx := fun _ => Q .none, rt := Q } (startE ["outs"] (ds.map .fz))) : FnG P w K mg base 1 Z.f_heights_of_outs.a Z.f_heights_of_outs.d ["outs"] (spW K 1 wf) :=
  fn_pure (wf := wf) (wb := wb_heights_of_outs) Z.f_heights_of_outs.F sc_heights_of_outs (fun cdv A outer s H hr hG => ⟨_,
    dss_one (ds_ret (de_tup (db_cons (de_int) (db_star K rfl (DE.op (de_sliceK K rfl (do_name 0) (dpo_some (DE.op (de_int))) (dpo_none))) (db_nil)))))⟩) hw
def wb_outs_of_heights : WS :=
  wRet (wTup (wCons (w2 gSubI (wCall gLenX (wCons (w2 gIxA (wB 0) (wC (.int 1))) (wNil))) (wCall gSum (wCons (wSl (wB 1) (wPart (wC (.int 1))) (wNoPart)) (wNil)))) (wStar (wSl (wB 1) (wPart (wC (.int 1))) (wNoPart)) (wNil))))
theorem wk_outs_of_heights (Z : Fs K mg) {wf : WF} (hw : ∀ ds Q, ds.length = 2 → wf ds Q → wb_outs_of_heights { nx := fun _ => Q .none, rt := Q } (startE ["frame", "heights"] (ds.map .fz))) : FnG P w K mg base 1 Z.f_outs_of_heights.a Z.f_outs_of_heights.d ["frame", "heights"] (spW K 2 wf) :=
  fn_pure (wf := wf) (wb := wb_outs_of_heights) Z.f_outs_of_heights.F sc_outs_of_heights (fun cdv A outer s H hr hG => ⟨_,
    dss_one (ds_ret (de_tup (db_cons (de_op op_sub (@rs_subI _) (DE.op (de_callB (cr_lenX K rfl) (@cs_lenX _) boot_len (by rfl) Z.n_len (da_cons (DE.op (de_ixK K rfl (un1 hr) (fun _ _ => rfl) (do_name 0) (de_int))) (da_nil)))) (DE.op (de_callB (cr_sumX K rfl rfl) (@cs_sumX _) bt_sum (by rfl) Z.n_sum (da_cons (DE.op (de_sliceK K rfl (do_name 1) (dpo_some (DE.op (de_int))) (dpo_none))) (da_nil))))) (db_star K rfl (DE.op (de_sliceK K rfl (do_name 1) (dpo_some (DE.op (de_int))) (dpo_none))) (db_nil)))))⟩) hw
def wb_with_one : WS :=
  wRet (wCall gTuple (wCons (wLc (wEnum (wN 0)) (wGt 2 (wGcons (wGn 3) (wGcons (wGn 4) (wGnil)))) (wYes) (wIfE (wTrB (w2 gEq (wB 3) (wB 1))) (w2 gAdd (wB 4) (wB 2)) (wN 4)) [3, 4]) (wNil)))
theorem wk_with_one (Z : Fs K mg) {wf : WF} (hw : ∀ ds Q, ds.length = 3 → wf ds Q → wb_with_one { nx := fun _ => Q .none, rt := Q } (startE ["outs", "crossing", "more", "place", "number"] (ds.map .fz))) : FnG P w K mg base 1 Z.f_with_one.a Z.f_with_one.d ["outs", "crossing", "more"] (spW K 3 wf) :=
  fn_pure (wf := wf) (wb := wb_with_one) Z.f_with_one.F sc_with_one (fun cdv A outer s H hr hG => ⟨_,
    dss_one (ds_ret (de_callT (cr_tupleK K rfl) (@cs_tuple _) boot_tuple (by rfl) Z.n_tuple (da_cons (DL.op (dl_lcV rfl sc_with_one.nd (di_enumK K rfl (by rfl) Z.n_enumerate (de_name 0)) [("place", 3), ("number", 4)] (blkOk_by (N := ["outs", "crossing", "more", "place", "number"]) (sc := defScope s_with_one) (by decide +kernel)) (fun _ _ _ _ _ => dg_tupK K rfl rfl (dgs_cons (dg_name 3 sc_with_one.nd) (dgs_cons (dg_name 4 sc_with_one.nd) (dgs_nil)))) (fun _ _ _ _ _ => dtt_nil) (fun _ _ _ _ _ => de_ifExp (dt_cmp (op_eqK K rfl (un64 hr)) (@rs_eq _) (by rfl) (do_name 3) (do_name 1)) (de_op (op_addK K rfl) (@rs_add _) (do_name 4) (do_name 2)) (de_name 4)) (by decide))) (da_nil))))⟩) hw
def wb_outs_rows (wf_with_one : WF) : WS :=
  wSeq (wAsgL (wDispT (w2 gRepT (wTup (wCons (wC (.int 0)) (wNil))) (w2 gIxA (wB 0) (wC (.int 0)))) (wC (.bool true))) 1) (wFrz 1 (wSeq (wFor (wItems (w2 gIxA (wB 0) (wC (.int 1)))) (wGt 2 (wGcons (wGn 2) (wGcons (wGn 3) (wGnil)))) (wSeq (wAsgL (wDNew) 4) (wSeq (wFor (wItems (wN 1)) (wGn 5) (wSeq (wStore 4 (wFn 3 wf_with_one (wCons (wN 5) (wCons (wN 2) (wCons (wC (.int 1)) (wNil))))) (wC (.bool true))) (wStore 4 (wFn 3 wf_with_one (wCons (wN 5) (wCons (wN 3) (wCons (wC (.int 1)) (wNil))))) (wC (.bool true))))) (wFrz 4 (wSeq (wAsg (wN 4) (wGn 1)) (wIf (wTrB (w2 gGtI (wCall gLenX (wCons (wB 1) (wNil))) (wC (.int 8000)))) (wNo) (wNext))))))) (wRet (wCall gTuple (wCons (wCall gSorted (wCons (wB 1) (wNil))) (wNil))))))
theorem wk_outs_rows (Z : Fs K mg) {wf_with_one : WF} {wf : WF} (G_with_one : FnG P w K mg base 1 Z.f_with_one.a Z.f_with_one.d ["outs", "crossing", "more"] (spW K 3 wf_with_one)) (hw : ∀ ds Q, ds.length = 1 → wf ds Q → wb_outs_rows wf_with_one { nx := fun _ => Q .none, rt := Q } (startE ["frame", "found", "a", "b", "late", "row"] (ds.map .fz))) : FnG P w K mg base 2 Z.f_outs_rows.a Z.f_outs_rows.d ["frame"] (spW K 1 wf) :=
  fn_pure (wf := wf) (wb := wb_outs_rows wf_with_one) Z.f_outs_rows.F sc_outs_rows (fun cdv A outer s H hr hG => ⟨_,
    dss_cons (ds_setD 1 sc_outs_rows.nd (dd_dispT (un1 hr) (de_op (op_repA K rfl) (@rs_repT _) (DE.op (de_tup (db_cons (de_int) (db_nil)))) (DE.op (de_ixK K rfl (un1 hr) (fun _ _ => rfl) (do_name 0) (de_int)))) (de_bl))) (dss_frz 1 (dss_cons (ds_for PassesOwn.never rfl (di_itemsK K rfl (de_ixK K rfl (un1 hr) (fun _ _ => rfl) (do_name 0) (de_int))) (dg_tupK K rfl rfl (dgs_cons (dg_name 2 sc_outs_rows.nd) (dgs_cons (dg_name 3 sc_outs_rows.nd) (dgs_nil)))) (dss_cons (ds_setD 4 sc_outs_rows.nd (dd_nil)) (dss_cons (ds_for PassesOwn.never rfl (di_itemsK K rfl (de_name 1)) (dg_name 5 sc_outs_rows.nd) (dss_cons (ds_store 4 (un1 hr) (de_bl) (de_fnK K rfl (G_with_one.mono (by decide)) hr hG Z.f_with_one.m Z.f_with_one.F.kp Z.f_with_one.b (by rfl) (db_cons (de_name 5) (db_cons (de_name 2) (db_cons (de_int) (db_nil))))) (pv 4)) (dss_one (ds_store 4 (un1 hr) (de_bl) (de_fnK K rfl (G_with_one.mono (by decide)) hr hG Z.f_with_one.m Z.f_with_one.F.kp Z.f_with_one.b (by rfl) (db_cons (de_name 5) (db_cons (de_name 3) (db_cons (de_int) (db_nil))))) (pv 4))))) (dss_frz 4 (dss_cons (ds_set 1 sc_outs_rows.nd (de_name 4)) (dss_one (ds_if (dt_cmp op_gt (@rs_gtI _) (by rfl) (DE.op (de_callB (cr_lenX K rfl) (@cs_lenX _) boot_len (by rfl) Z.n_len (da_cons (do_name 1) (da_nil)))) (DE.op (de_topI (by rfl) Z.n_MOST_ROWS))) (dss_one (ds_no)) (dss_nil)))))))) (dss_one (ds_ret (de_callT (cr_tupleK K rfl) (@cs_tuple _) boot_tuple (by rfl) Z.n_tuple (da_cons (DL.op (dl_callB (cr_sortedK K rfl rfl (un70 hr)) (@cs_sorted _) bt_sorted (by rfl) Z.n_sorted (da_cons (do_name 1) (da_nil)))) (da_nil)))))))⟩) hw
def wb_points_of (wf_outs_rows wf_heights_of_outs : WF) : WS :=
  wRet (wCall gTuple (wCons (wCall gSorted (wCons (wLc (wItems (wFn 1 wf_outs_rows (wCons (wN 0) (wNil)))) (wGn 1) (wYes) (wFn 1 wf_heights_of_outs (wCons (wN 1) (wNil))) [1]) (wNil))) (wNil)))
theorem wk_points_of (Z : Fs K mg) {wf_outs_rows wf_heights_of_outs : WF} {wf : WF} (G_outs_rows : FnG P w K mg base 2 Z.f_outs_rows.a Z.f_outs_rows.d ["frame"] (spW K 1 wf_outs_rows)) (G_heights_of_outs : FnG P w K mg base 1 Z.f_heights_of_outs.a Z.f_heights_of_outs.d ["outs"] (spW K 1 wf_heights_of_outs)) (hw : ∀ ds Q, ds.length = 1 → wf ds Q → wb_points_of wf_outs_rows wf_heights_of_outs { nx := fun _ => Q .none, rt := Q } (startE ["frame", "outs"] (ds.map .fz))) : FnG P w K mg base 3 Z.f_points_of.a Z.f_points_of.d ["frame"] (spW K 1 wf) :=
  fn_pure (wf := wf) (wb := wb_points_of wf_outs_rows wf_heights_of_outs) Z.f_points_of.F sc_points_of (fun cdv A outer s H hr hG => ⟨_,
    dss_one (ds_ret (de_callT (cr_tupleK K rfl) (@cs_tuple _) boot_tuple (by rfl) Z.n_tuple (da_cons (DL.op (dl_callB (cr_sortedK K rfl rfl (un70 hr)) (@cs_sorted _) bt_sorted (by rfl) Z.n_sorted (da_cons (DL.op (dl_lcV rfl sc_points_of.nd (di_itemsK K rfl (de_fnK K rfl (G_outs_rows.mono (by decide)) hr hG Z.f_outs_rows.m Z.f_outs_rows.F.kp Z.f_outs_rows.b (by rfl) (db_cons (de_name 0) (db_nil)))) [("outs", 1)] (blkOk_by (N := ["frame", "outs"]) (sc := defScope s_points_of) (by decide +kernel)) (fun _ _ _ _ _ => dg_name 1 sc_points_of.nd) (fun _ _ _ _ _ => dtt_nil) (fun _ _ _ _ _ => de_fnK K rfl (G_heights_of_outs.mono (by decide)) hr hG Z.f_heights_of_outs.m Z.f_heights_of_outs.F.kp Z.f_heights_of_outs.b (by rfl) (db_cons (de_name 1) (db_nil))) (by decide))) (da_nil)))) (da_nil))))⟩) hw
def wb_worth_of : WS :=
  wSeq (wPar [2, 3] (wMFz (wC (.int 0)) (wMFz (wLc (wItems (wSl (wB 1) (wPart (wC (.int 1))) (wNoPart))) (wGn 9) (wYes) (w2 gSubI (wB 9) (w2 gIxA (wB 1) (wC (.int 0)))) [9]) (wMNil)))) (wSeq (wFor (wItems (wN 0)) (wGt 2 (wGcons (wGn 4) (wGcons (wGn 5) (wGnil)))) (wSeq (wFor (wZip true (wCons (wN 3) (wCons (wN 4) (wNil)))) (wGt 2 (wGcons (wGn 6) (wGcons (wGn 7) (wGnil)))) (wFor (wRng1 (wB 7)) (wGn 8) (wAsg (w2 gMulI (wB 5) (wB 6)) (wGn 5)))) (wAug 2 (wB 5) gAddI))) (wRet (wN 2)))
theorem wk_worth_of (Z : Fs K mg) {wf : WF} (hw : ∀ ds Q, ds.length = 2 → wf ds Q → wb_worth_of { nx := fun _ => Q .none, rt := Q } (startE ["poly", "heights", "total", "rises", "powers", "number", "rise", "power", "lap", "height"] (ds.map .fz))) : FnG P w K mg base 1 Z.f_worth_of.a Z.f_worth_of.d ["poly", "heights"] (spW K 2 wf) :=
  fn_pure (wf := wf) (wb := wb_worth_of) Z.f_worth_of.F sc_worth_of (fun cdv A outer s H hr hG => ⟨_,
    dss_cons (ds_par2 2 3 rfl sc_worth_of.nd (dm_fz (de_int) (dm_fz (DL.fr (dl_lcV rfl sc_worth_of.nd (di_itemsK K rfl (de_sliceK K rfl (do_name 1) (dpo_some (DE.op (de_int))) (dpo_none))) [("height", 9)] (blkOk_by (N := ["poly", "heights", "total", "rises", "powers", "number", "rise", "power", "lap", "height"]) (sc := defScope s_worth_of) (by decide +kernel)) (fun _ _ _ _ _ => dg_name 9 sc_worth_of.nd) (fun _ _ _ _ _ => dtt_nil) (fun _ _ _ _ _ => de_op op_sub (@rs_subI _) (do_name 9) (DE.op (de_ixK K rfl (un1 hr) (fun _ _ => rfl) (do_name 1) (de_int)))) (by decide))) (dm_nil)))) (dss_cons (ds_for PassesOwn.never rfl (di_itemsK K rfl (de_name 0)) (dg_tupK K rfl rfl (dgs_cons (dg_name 4 sc_worth_of.nd) (dgs_cons (dg_name 5 sc_worth_of.nd) (dgs_nil)))) (dss_cons (ds_for PassesOwn.never rfl (di_zpSK K rfl (by rfl) Z.n_zip (db_cons (de_name 3) (db_cons (de_name 4) (db_nil)))) (dg_tupK K rfl rfl (dgs_cons (dg_name 6 sc_worth_of.nd) (dgs_cons (dg_name 7 sc_worth_of.nd) (dgs_nil)))) (dss_one (ds_for PassesOwn.never rfl (di_range1 (by rfl) Z.n_range (do_name 7)) (dg_name 8 sc_worth_of.nd) (dss_one (ds_set 5 sc_worth_of.nd (de_op op_mulW (@rs_mulI _) (do_name 5) (do_name 6))))))) (dss_one (ds_aug 2 sc_worth_of.nd iop_add (@rs_addI _) (do_name 5))))) (dss_one (ds_ret (de_name 2))))⟩) hw
def wb_values_at (wf_worth_of : WF) : WS :=
  wRet (wCall gTuple (wCons (wLc (wItems (wN 0)) (wGn 2) (wYes) (wFn 2 wf_worth_of (wCons (wN 1) (wCons (wN 2) (wNil)))) [2]) (wNil)))
theorem wk_values_at (Z : Fs K mg) {wf_worth_of : WF} {wf : WF} (G_worth_of : FnG P w K mg base 1 Z.f_worth_of.a Z.f_worth_of.d ["poly", "heights"] (spW K 2 wf_worth_of)) (hw : ∀ ds Q, ds.length = 2 → wf ds Q → wb_values_at wf_worth_of { nx := fun _ => Q .none, rt := Q } (startE ["points", "poly", "heights"] (ds.map .fz))) : FnG P w K mg base 2 Z.f_values_at.a Z.f_values_at.d ["points", "poly"] (spW K 2 wf) :=
  fn_pure (wf := wf) (wb := wb_values_at wf_worth_of) Z.f_values_at.F sc_values_at (fun cdv A outer s H hr hG => ⟨_,
    dss_one (ds_ret (de_callT (cr_tupleK K rfl) (@cs_tuple _) boot_tuple (by rfl) Z.n_tuple (da_cons (DL.op (dl_lcV rfl sc_values_at.nd (di_itemsK K rfl (de_name 0)) [("heights", 2)] (blkOk_by (N := ["points", "poly", "heights"]) (sc := defScope s_values_at) (by decide +kernel)) (fun _ _ _ _ _ => dg_name 2 sc_values_at.nd) (fun _ _ _ _ _ => dtt_nil) (fun _ _ _ _ _ => de_fnK K rfl (G_worth_of.mono (by decide)) hr hG Z.f_worth_of.m Z.f_worth_of.F.kp Z.f_worth_of.b (by rfl) (db_cons (de_name 1) (db_cons (de_name 2) (db_nil)))) (by decide))) (da_nil))))⟩) hw
def wb_road_ends : WS :=
  wRet (wTup (wCons (wC (.int 0)) (wStar (wLc (wRng2 (wC (.int 1)) (w2 gIxA (wB 0) (wC (.int 0)))) (wGn 1) (wYes) (wCall gLenX (wCons (wLc (wItems (w2 gIxA (wB 0) (wC (.int 1)))) (wGn 2) (wTrB (w2 (gInA false) (wN 1) (wB 2))) (wN 2) [2]) (wNil))) [1]) (wNil))))
theorem wk_road_ends (Z : Fs K mg) {wf : WF} (hw : ∀ ds Q, ds.length = 1 → wf ds Q → wb_road_ends { nx := fun _ => Q .none, rt := Q } (startE ["frame", "crossing", "road"] (ds.map .fz))) : FnG P w K mg base 1 Z.f_road_ends.a Z.f_road_ends.d ["frame"] (spW K 1 wf) :=
  fn_pure (wf := wf) (wb := wb_road_ends) Z.f_road_ends.F sc_road_ends (fun cdv A outer s H hr hG => ⟨_,
    dss_one (ds_ret (de_tup (db_cons (de_int) (db_star K rfl (DL.op (dl_lcV rfl sc_road_ends.nd (di_range2 (by rfl) Z.n_range (DE.op (de_int)) (DE.op (de_ixK K rfl (un1 hr) (fun _ _ => rfl) (do_name 0) (de_int)))) [("crossing", 1)] (blkOk_by (N := ["frame", "crossing", "road"]) (sc := defScope s_road_ends) (by decide +kernel)) (fun _ _ _ _ _ => dg_name 1 sc_road_ends.nd) (fun _ _ _ _ _ => dtt_nil) (fun _ _ _ _ _ => de_callB (cr_lenX K rfl) (@cs_lenX _) boot_len (by rfl) Z.n_len (da_cons (DL.op (dl_lcV rfl sc_road_ends.nd (di_itemsK K rfl (de_ixK K rfl (un1 hr) (fun _ _ => rfl) (do_name 0) (de_int))) [("road", 2)] (blkOk_by (by rfl)) (fun _ _ _ _ _ => dg_name 2 sc_road_ends.nd) (fun _ _ _ _ _ => dtt_one (dt_cmp1 (op_inK K rfl (un65 hr)) (@rs_in _) (by rfl) (de_name 1) (do_name 2))) (fun _ _ _ _ _ => de_name 2) (by decide))) (da_nil))) (by decide))) (db_nil)))))⟩) hw
theorem wk__law_source (Z : Fs K mg) : FnG P w K mg base 1 Z.f__law_source.a Z.f__law_source.d ["script"] (spSource K) := fn_source Z.f__law_source.F sc__law_source fun cdv A outer s H =>
  pss_cons (ps_set (i := 1) sc__law_source.nd rfl (.inl rfl) pe_int) (pss_cons (ps_for PassesOwn.never rfl (pi_list (pv 0)) (pg_name (i := 2) sc__law_source.nd rfl (.inl rfl)) (pss_one (ps_set (i := 1) sc__law_source.nd rfl (.inl rfl) (pe_op op_mod (pe_callTy call_int1 (by rfl) Z.n_int boot_int (pa_cons (pe_op op_add (pe_op op_add (pe_op op_mul (pv 1) pe_int) (pe_op op_mul (pv 2) pe_int)) pe_int) pa_nil)) pe_int))))
    (pss_one (ps_ret (pe_disp (pps_cons pe_str (pe_revL (pe_lc (own := [("cell", 2)]) (g := gName 2) (tt := tYes) (te := tCB rAbs1 (tCons (tVar 2) tNil)) rfl sc__law_source.nd (pi_list (pv 0)) (blkOk_by (N := ["script", "mixed", "cell"]) (sc := defScope s__law_source) (own := [("cell", 2)]) (by decide +kernel)) (fun _ _ _ _ _ => pg_name (i := 2) sc__law_source.nd rfl (.inl rfl)) (fun _ _ _ _ _ => pts_nil) (fun _ _ _ _ _ => pe_callB call_abs (by rfl) Z.n_abs bt_abs (pa_cons (pv 2) pa_nil)))) (pps_cons pe_str pe_int (pps_cons pe_str (pv 1) (pps_cons pe_str pe_int pps_nil)))) rfl rfl (fun h => nomatch h) (by decide)))))
theorem wk__law_pick (Z : Fs K mg) : FnG P w K mg base 1 Z.f__law_pick.a Z.f__law_pick.d ["source", "many"] (spS K 1 wfPick) := fn_pick Z.f__law_pick.F sc__law_pick fun cdv A outer s H hr =>
  pss_cons (ps_while PassesOwn.never (pw_and (pt_cmpR op_gt (pv 1) (pe_int) (by rfl)) (pw_and (pt_cmpR op_lt (pe_dget (un1 hr) (pv 0) pe_str (fun _ _ => rfl)) (pe_int) (by rfl)) (pw_and1 (pt_cmpR op_gt (pe_callB call_len_seq (by rfl) Z.n_len boot_len (pa_cons (pe_dget (un1 hr) (pv 0) pe_str (fun _ _ => rfl)) pa_nil)) (pe_int) (by rfl))))).pt (pss_one (ps_dput (un1 hr) (pv 0) pe_str (pe_bm0 PySem.F.plainAttrs_list PySem.F.slot_list_pop PySem.F.type_list_pop mt_pop (pe_dget (un1 hr) (pv 0) pe_str (fun _ _ => rfl))) (by rfl))))
  (pss_cons (ps_set (i := 2) sc__law_pick.nd rfl (.inl rfl) (pe_dget (un1 hr) (pv 0) pe_str (fun _ _ => rfl)))
  (pss_cons (ps_if (pw_or (pt_cmpR op_lt (pv 1) (pe_int) (by rfl)) (pw_or1 (pt_cmpR op_gt (pv 2) (pe_int) (by rfl)))).pt (pss_cons (ps_dput (un1 hr) (pv 0) pe_str (pe_op op_fdiv (pv 2) (pe_callB (call_max2 rfl) (by rfl) Z.n_max bt_max (pa_cons pe_int (pa_cons (pv 1) pa_nil)))) (by rfl)) (pss_one (ps_ret (pe_op op_mod (pe_callTy call_int1 (by rfl) Z.n_int boot_int (pa_cons (pv 2) pa_nil)) (pe_callB (call_max2 rfl) (by rfl) Z.n_max bt_max (pa_cons pe_int (pa_cons (pv 1) pa_nil))))))) pss_nil)
  (pss_cons (ps_dput (un1 hr) (pv 0) pe_str (pe_op op_add (pe_dget (un1 hr) (pv 0) pe_str (fun _ _ => rfl)) pe_int) (by rfl))
  (pss_cons (ps_set (i := 3) sc__law_pick.nd rfl (.inl rfl) (pe_op op_mod (pe_callTy call_int1 (by rfl) Z.n_int boot_int (pa_cons (pe_op op_add (pe_dget (un1 hr) (pv 0) pe_str (fun _ _ => rfl)) (pe_op op_mul (pe_dget (un1 hr) (pv 0) pe_str (fun _ _ => rfl)) pe_int)) pa_nil)) pe_int))
  (pss_cons (ps_set (i := 3) sc__law_pick.nd rfl (.inl rfl) (pe_op op_mod (pe_callTy call_int1 (by rfl) Z.n_int boot_int (pa_cons (pe_op op_add (pe_op op_mul (pv 3) (pv 3)) (pe_op op_mul (pe_dget (un1 hr) (pv 0) pe_str (fun _ _ => rfl)) pe_int)) pa_nil)) pe_int))
  (pss_cons (ps_dput (un1 hr) (pv 0) pe_str (pv 3) (by rfl))
  (pss_one (ps_ret (pe_op op_mod (pe_callTy call_int1 (by rfl) Z.n_int boot_int (pa_cons (pe_op op_fdiv (pv 3) pe_int) pa_nil)) (pv 1)))))))))) 
theorem wk__law_mixed (Z : Fs K mg) (G_pick : FnG P w K mg base 1 Z.f__law_pick.a Z.f__law_pick.d ["source", "many"] (spS K 1 wfPick)) : FnG P w K mg base 2 Z.f__law_mixed.a Z.f__law_mixed.d ["source", "things"] (spS K 1 wfMixed) := fn_mixed Z.f__law_mixed.F sc__law_mixed fun cdv A outer s H hr hG =>
  pss_cons (ps_set (i := 2) sc__law_mixed.nd rfl (.inr rfl) (pe_callTy call_list_of (by rfl) Z.n_list boot_list (pa_cons (pv 1) pa_nil))) (pss_one (ps_ret (pe_lc (own := [("lap", 3)]) (g := gName 3) (tt := tYes) (te := tBM K "list" rPopAt (tVar 2) (tCons (tPickLen K 0 2) tNil)) rfl sc__law_mixed.nd (pi_range1 (by rfl) Z.n_range (pa_cons (pe_callB call_len_seq (by rfl) Z.n_len boot_len (pa_cons (pv 2) pa_nil)) pa_nil)) (blkOk_by (N := ["source", "things", "rest", "lap"]) (sc := defScope s__law_mixed) (own := [("lap", 3)]) (by decide +kernel)) (fun _ _ _ _ _ => pg_name (i := 3) sc__law_mixed.nd rfl (.inl rfl) (.inr rfl)) (fun _ _ _ _ _ => pts_nil)
    (fun _ _ _ _ _ => pe_bm PySem.F.plainAttrs_list PySem.F.slot_list_pop PySem.F.type_list_pop mt_popAt (pv 2) (pa_cons (pe_callG (G_pick.mono (by decide)) hr hG (by rfl) Z.f__law_pick.m Z.f__law_pick.F.kp Z.f__law_pick.b (pa_cons (pv 0) (pa_cons (pe_callB call_len_seq (by rfl) Z.n_len boot_len (pa_cons (pv 2) pa_nil)) pa_nil))) pa_nil)))))
def wb__law_frame : WS :=
  wSeq (wAsg (w2 gAdd (wC (.int 2)) (wFnS 0 1 wfPick (wCons (w2 gSubI (wB 1) (wC (.int 1))) (wNil)))) (wGn 3)) (wSeq (wAsgL (wLc (wRng2 (wC (.int 1)) (wB 3)) (wGn 9) (wYes) (wTup (wCons (wFnS 0 1 wfPick (wCons (wN 9) (wNil))) (wCons (wN 9) (wNil)))) [9]) 4) (wSeq (wFor (wRng1 (wFnS 0 1 wfPick (wCons (w2 gAdd (wB 2) (wC (.int 1))) (wNil)))) (wGn 5) (wMutE 4 gAppend (wCons (wCall gTuple (wCons (wSl (wFnS 0 1 wfMixed (wCons (wLstRg (wR1 (wB 3))) (wNil))) (wNoPart) (wPart (wC (.int 2)))) (wNil))) (wNil)) (fun _ η Q => Q η))) (wSeq (wAsgL (wLst (wNil)) 6) (wFrz 4 (wSeq (wFor (wItems (wFnS 0 1 wfMixed (wCons (wN 4) (wNil)))) (wGt 2 (wGcons (wGn 7) (wGcons (wGn 8) (wGnil)))) (wMutE 6 gAppend (wCons (wIfE (wTrB (w2 gEq (wFnS 0 1 wfPick (wCons (wC (.int 2)) (wNil))) (wC (.int 0)))) (wTup (wCons (wN 7) (wCons (wN 8) (wNil)))) (wTup (wCons (wN 8) (wCons (wN 7) (wNil))))) (wNil)) (fun _ η Q => Q η))) (wRet (wTup (wCons (wN 3) (wCons (wCall gTuple (wCons (wB 6) (wNil))) (wNil))))))))))
theorem wk__law_frame (Z : Fs K mg) {wf : WF} (G__law_pick : FnG P w K mg base 1 Z.f__law_pick.a Z.f__law_pick.d ["source", "many"] (spS K 1 wfPick)) (G__law_mixed : FnG P w K mg base 2 Z.f__law_mixed.a Z.f__law_mixed.d ["source", "things"] (spS K 1 wfMixed)) (hw : ∀ ds Q, ds.length = 2 → wf ds Q → wb__law_frame { nx := fun _ => Q .none, rt := Q } (startE ["source", "most", "more", "n", "roads", "lap", "turned", "a", "b", "v"] (.src :: ds.map .fz))) : FnG P w K mg base 3 Z.f__law_frame.a Z.f__law_frame.d ["source", "most", "more"] (spS K 2 wf) :=
  fn_src (wf := wf) (wb := wb__law_frame) Z.f__law_frame.F sc__law_frame (fun cdv A outer s H hr hG => ⟨_,
    dss_cons (ds_set 3 sc__law_frame.nd (de_op (op_addK K rfl) (@rs_add _) (DE.op (de_int)) (DE.op (de_fnSK K rfl 0 (G__law_pick.mono (by decide)) hr hG Z.f__law_pick.m Z.f__law_pick.F.kp Z.f__law_pick.b (by rfl) (pv 0) (db_cons (de_op op_sub (@rs_subI _) (do_name 1) (DE.op (de_int))) (db_nil)))))) (dss_cons (ds_lcL 4 rfl sc__law_frame.nd (di_range2 (by rfl) Z.n_range (DE.op (de_int)) (do_name 3)) [("v", 9)] (blkOk_by (N := ["source", "most", "more", "n", "roads", "lap", "turned", "a", "b", "v"]) (sc := defScope s__law_frame) (by decide +kernel)) (fun _ _ _ _ _ => dg_name 9 sc__law_frame.nd) (fun _ _ _ _ _ => dtt_nil) (fun _ _ _ _ _ => de_tup (db_cons (de_fnSK K rfl 0 (G__law_pick.mono (by decide)) hr hG Z.f__law_pick.m Z.f__law_pick.F.kp Z.f__law_pick.b (by rfl) (pv 0) (db_cons (de_name 9) (db_nil))) (db_cons (de_name 9) (db_nil)))) (by decide)) (dss_cons (ds_for PassesOwn.never rfl (di_range1 (by rfl) Z.n_range (DE.op (de_fnSK K rfl 0 (G__law_pick.mono (by decide)) hr hG Z.f__law_pick.m Z.f__law_pick.F.kp Z.f__law_pick.b (by rfl) (pv 0) (db_cons (de_op (op_addK K rfl) (@rs_add _) (do_name 2) (DE.op (de_int))) (db_nil))))) (dg_name 5 sc__law_frame.nd) (dss_one (ds_append 4 (db_cons (de_callT (cr_tupleK K rfl) (@cs_tuple _) boot_tuple (by rfl) Z.n_tuple (da_cons (DE.op (de_sliceK K rfl (DE.op (de_fnSK K rfl 0 (G__law_mixed.mono (by decide)) hr hG Z.f__law_mixed.m Z.f__law_mixed.F.kp Z.f__law_mixed.b (by rfl) (pv 0) (db_cons (DL.fr (dl_listRg rfl (by rfl) Z.n_list (drg_1 (by rfl) Z.n_range (do_name 3)))) (db_nil)))) (dpo_none) (dpo_some (DE.op (de_int))))) (da_nil))) (db_nil)) (pv 4)))) (dss_cons (ds_setL 6 sc__law_frame.nd (dl_lst (db_nil))) (dss_frz 4 (dss_cons (ds_for PassesOwn.never rfl (di_itemsK K rfl (de_fnSK K rfl 0 (G__law_mixed.mono (by decide)) hr hG Z.f__law_mixed.m Z.f__law_mixed.F.kp Z.f__law_mixed.b (by rfl) (pv 0) (db_cons (de_name 4) (db_nil)))) (dg_tupK K rfl rfl (dgs_cons (dg_name 7 sc__law_frame.nd) (dgs_cons (dg_name 8 sc__law_frame.nd) (dgs_nil)))) (dss_one (ds_append 6 (db_cons (de_ifExp (dt_cmp (op_eqK K rfl (un64 hr)) (@rs_eq _) (by rfl) (DE.op (de_fnSK K rfl 0 (G__law_pick.mono (by decide)) hr hG Z.f__law_pick.m Z.f__law_pick.F.kp Z.f__law_pick.b (by rfl) (pv 0) (db_cons (de_int) (db_nil)))) (DE.op (de_int))) (de_tup (db_cons (de_name 7) (db_cons (de_name 8) (db_nil)))) (de_tup (db_cons (de_name 8) (db_cons (de_name 7) (db_nil))))) (db_nil)) (pv 6)))) (dss_one (ds_ret (de_tup (db_cons (de_name 3) (db_cons (de_callT (cr_tupleK K rfl) (@cs_tuple _) boot_tuple (by rfl) Z.n_tuple (da_cons (do_name 6) (da_nil))) (db_nil)))))))))))⟩) hw
def wb__law_points : WS :=
  wSeq (wAsgL (wDispT (w2 gRepT (wTup (wCons (wC (.int 0)) (wNil))) (w2 gIxA (wB 0) (wC (.int 0)))) (wC (.int 0))) 1) (wFrz 1 (wSeq (wFor (wItems (w2 gIxA (wB 0) (wC (.int 1)))) (wGt 2 (wGcons (wGn 2) (wGcons (wGn 3) (wGnil)))) (wSeq (wAsgL (wDNew) 4) (wSeq (wFor (wItems (wN 1)) (wGn 5) (wFor (wItems (wTup (wCons (wN 2) (wCons (wN 3) (wNil))))) (wGn 6) (wStore 4 (w2 gAdd (w2 gAdd (wSl (wB 5) (wNoPart) (wPart (wB 6))) (wTup (wCons (w2 gAdd (w2 gIxA (wB 5) (wN 6)) (wC (.int 1))) (wNil)))) (wSl (wB 5) (wPart (w2 gAdd (wB 6) (wC (.int 1)))) (wNoPart))) (wC (.int 0))))) (wFrz 4 (wAsg (wN 4) (wGn 1)))))) (wRet (wCall gSorted (wCons (wCall gDictX (wCons (wLc (wItems (wN 1)) (wGn 5) (wYes) (wTup (wCons (w2 gAdd (wTup (wCons (wC (.int 0)) (wNil))) (wSl (wB 5) (wPart (wC (.int 1))) (wNoPart))) (wCons (wC (.int 0)) (wNil)))) [5]) (wNil))) (wNil))))))
theorem wk__law_points (Z : Fs K mg) {wf : WF} (hw : ∀ ds Q, ds.length = 1 → wf ds Q → wb__law_points { nx := fun _ => Q .none, rt := Q } (startE ["frame", "found", "a", "b", "late", "row", "x"] (ds.map .fz))) : FnG P w K mg base 1 Z.f__law_points.a Z.f__law_points.d ["frame"] (spW K 1 wf) :=
  fn_pure (wf := wf) (wb := wb__law_points) Z.f__law_points.F sc__law_points (fun cdv A outer s H hr hG => ⟨_,
    dss_cons (ds_setD 1 sc__law_points.nd (dd_dispT (un1 hr) (de_op (op_repA K rfl) (@rs_repT _) (DE.op (de_tup (db_cons (de_int) (db_nil)))) (DE.op (de_ixK K rfl (un1 hr) (fun _ _ => rfl) (do_name 0) (de_int)))) (de_int))) (dss_frz 1 (dss_cons (ds_for PassesOwn.never rfl (di_itemsK K rfl (de_ixK K rfl (un1 hr) (fun _ _ => rfl) (do_name 0) (de_int))) (dg_tupK K rfl rfl (dgs_cons (dg_name 2 sc__law_points.nd) (dgs_cons (dg_name 3 sc__law_points.nd) (dgs_nil)))) (dss_cons (ds_setD 4 sc__law_points.nd (dd_nil)) (dss_cons (ds_for PassesOwn.never rfl (di_itemsK K rfl (de_name 1)) (dg_name 5 sc__law_points.nd) (dss_one (ds_for PassesOwn.never rfl (di_itemsK K rfl (de_tup (db_cons (de_name 2) (db_cons (de_name 3) (db_nil))))) (dg_name 6 sc__law_points.nd) (dss_one (ds_store 4 (un1 hr) (de_int) (de_op (op_addK K rfl) (@rs_add _) (DE.op (de_op (op_addK K rfl) (@rs_add _) (DE.op (de_sliceK K rfl (do_name 5) (dpo_none) (dpo_some (do_name 6)))) (DE.op (de_tup (db_cons (de_op (op_addK K rfl) (@rs_add _) (DE.op (de_ixK K rfl (un1 hr) (fun _ _ => rfl) (do_name 5) (de_name 6))) (DE.op (de_int))) (db_nil)))))) (DE.op (de_sliceK K rfl (do_name 5) (dpo_some (DE.op (de_op (op_addK K rfl) (@rs_add _) (do_name 6) (DE.op (de_int))))) (dpo_none)))) (pv 4)))))) (dss_frz 4 (dss_one (ds_set 1 sc__law_points.nd (de_name 4))))))) (dss_one (ds_ret (DL.fr (dl_callB (cr_sortedK K rfl rfl (un70 hr)) (@cs_sorted _) bt_sorted (by rfl) Z.n_sorted (da_cons (DE.op (DD.fr (dd_callTK K rfl (cr_dictX K rfl rfl (un64 hr)) (@cs_dictX _) boot_dict (by rfl) Z.n_dict (da_cons (DL.op (dl_lcV rfl sc__law_points.nd (di_itemsK K rfl (de_name 1)) [("row", 5)] (blkOk_by (N := ["frame", "found", "a", "b", "late", "row", "x"]) (sc := defScope s__law_points) (by decide +kernel)) (fun _ _ _ _ _ => dg_name 5 sc__law_points.nd) (fun _ _ _ _ _ => dtt_nil) (fun _ _ _ _ _ => de_tup (db_cons (de_op (op_addK K rfl) (@rs_add _) (DE.op (de_tup (db_cons (de_int) (db_nil)))) (DE.op (de_sliceK K rfl (do_name 5) (dpo_some (DE.op (de_int))) (dpo_none)))) (db_cons (de_int) (db_nil)))) (by decide))) (da_nil))))) (da_nil))))))))⟩) hw
def wb__law_free_lots : WS :=
  wSeq (wAsg (wLst (wCons (wTup (wNil)) (wNil))) (wGn 1)) (wSeq (wFor (wEnum (w2 gIxA (wB 0) (wC (.int 1)))) (wGt 2 (wGcons (wGn 2) (wGcons (wGt 2 (wGcons (wGn 3) (wGcons (wGn 4) (wGnil)))) (wGnil)))) (wSeq (wAsgL (wLst (wNil)) 5) (wSeq (wFor (wItems (wN 1)) (wGn 6) (wSeq (wAsg (wLstRg (wR1 (w2 gIxA (wB 0) (wC (.int 0))))) (wGn 7)) (wSeq (wFor (wItems (wN 6)) (wGn 8) (wSeq (wPar [9, 10] (wMFz (w2 gIxA (wB 7) (w2 gIxA (w2 gIxA (w2 gIxA (wB 0) (wC (.int 1))) (wN 8)) (wC (.int 0)))) (wMFz (w2 gIxA (wB 7) (w2 gIxA (w2 gIxA (w2 gIxA (wB 0) (wC (.int 1))) (wN 8)) (wC (.int 1)))) (wMNil)))) (wAsg (wLc (wItems (wN 7)) (wGn 11) (wYes) (wIfE (wTrB (w2 gEq (wB 11) (wB 10))) (wN 9) (wN 11)) [11]) (wGn 7)))) (wIf (wTrB (w2 gNe (w2 gIxA (wB 7) (wN 3)) (w2 gIxA (wB 7) (wN 4)))) (wMutE 5 gAppend (wCons (w2 gAdd (wB 6) (wTup (wCons (wN 2) (wNil)))) (wNil)) (fun _ η Q => Q η)) (wNext))))) (wAsg (w2 gAdd (wB 1) (wB 5)) (wGn 1))))) (wRet (wN 1)))
theorem wk__law_free_lots (Z : Fs K mg) {wf : WF} (hw : ∀ ds Q, ds.length = 1 → wf ds Q → wb__law_free_lots { nx := fun _ => Q .none, rt := Q } (startE ["frame", "found", "road", "a", "b", "late", "lot", "heads", "one", "x", "y", "head"] (ds.map .fz))) : FnG P w K mg base 1 Z.f__law_free_lots.a Z.f__law_free_lots.d ["frame"] (spW K 1 wf) :=
  fn_pure (wf := wf) (wb := wb__law_free_lots) Z.f__law_free_lots.F sc__law_free_lots (fun cdv A outer s H hr hG => ⟨_,
    dss_cons (ds_set 1 sc__law_free_lots.nd (DL.fr (dl_lst (db_cons (de_tup (db_nil)) (db_nil))))) (dss_cons (ds_for PassesOwn.never rfl (di_enumK K rfl (by rfl) Z.n_enumerate (de_ixK K rfl (un1 hr) (fun _ _ => rfl) (do_name 0) (de_int))) (dg_tupK K rfl rfl (dgs_cons (dg_name 2 sc__law_free_lots.nd) (dgs_cons (dg_tupK K rfl rfl (dgs_cons (dg_name 3 sc__law_free_lots.nd) (dgs_cons (dg_name 4 sc__law_free_lots.nd) (dgs_nil)))) (dgs_nil)))) (dss_cons (ds_setL 5 sc__law_free_lots.nd (dl_lst (db_nil))) (dss_cons (ds_for PassesOwn.never rfl (di_itemsK K rfl (de_name 1)) (dg_name 6 sc__law_free_lots.nd) (dss_cons (ds_set 7 sc__law_free_lots.nd (DL.fr (dl_listRg rfl (by rfl) Z.n_list (drg_1 (by rfl) Z.n_range (DE.op (de_ixK K rfl (un1 hr) (fun _ _ => rfl) (do_name 0) (de_int))))))) (dss_cons (ds_for PassesOwn.never rfl (di_itemsK K rfl (de_name 6)) (dg_name 8 sc__law_free_lots.nd) (dss_cons (ds_parT rfl (dm_fz (de_ixK K rfl (un1 hr) (fun _ _ => rfl) (do_name 7) (de_ixK K rfl (un1 hr) (fun _ _ => rfl) (DE.op (de_ixK K rfl (un1 hr) (fun _ _ => rfl) (DE.op (de_ixK K rfl (un1 hr) (fun _ _ => rfl) (do_name 0) (de_int))) (de_name 8))) (de_int))) (dm_fz (de_ixK K rfl (un1 hr) (fun _ _ => rfl) (do_name 7) (de_ixK K rfl (un1 hr) (fun _ _ => rfl) (DE.op (de_ixK K rfl (un1 hr) (fun _ _ => rfl) (DE.op (de_ixK K rfl (un1 hr) (fun _ _ => rfl) (do_name 0) (de_int))) (de_name 8))) (de_int))) (dm_nil))) (pgn_cons 9 sc__law_free_lots.nd (pgn_cons 10 sc__law_free_lots.nd (pgn_nil)))) (dss_one (ds_lcF 7 rfl sc__law_free_lots.nd (di_itemsK K rfl (de_name 7)) [("head", 11)] (blkOk_by (N := ["frame", "found", "road", "a", "b", "late", "lot", "heads", "one", "x", "y", "head"]) (sc := defScope s__law_free_lots) (by decide +kernel)) (fun _ _ _ _ _ => dg_name 11 sc__law_free_lots.nd) (fun _ _ _ _ _ => dtt_nil) (fun _ _ _ _ _ => de_ifExp (dt_cmp (op_eqK K rfl (un64 hr)) (@rs_eq _) (by rfl) (do_name 11) (do_name 10)) (de_name 9) (de_name 11)) (by decide))))) (dss_one (ds_if (dt_cmp (op_neK K rfl (un64 hr)) (@rs_ne _) (by rfl) (DE.op (de_ixK K rfl (un1 hr) (fun _ _ => rfl) (do_name 7) (de_name 3))) (DE.op (de_ixK K rfl (un1 hr) (fun _ _ => rfl) (do_name 7) (de_name 4)))) (dss_one (ds_append 5 (db_cons (de_op (op_addK K rfl) (@rs_add _) (do_name 6) (DE.op (de_tup (db_cons (de_name 2) (db_nil))))) (db_nil)) (pv 5))) (dss_nil)))))) (dss_one (ds_set 1 sc__law_free_lots.nd (de_op (op_addK K rfl) (@rs_add _) (do_name 1) (do_name 5))))))) (dss_one (ds_ret (de_name 1))))⟩) hw
def wb__law_lots : WS :=
  wSeq (wAsg (wLst (wCons (wTup (wNil)) (wNil))) (wGn 1)) (wSeq (wFor (wRng2 (wC (.int 1)) (wB 0)) (wGn 2) (wAsg (w2 gCat (wB 1) (wLc (wItems (wN 1)) (wGn 3) (wYes) (w2 gAdd (wB 3) (wTup (wCons (wN 2) (wNil)))) [3])) (wGn 1))) (wRet (wSl (wCall gSorted (wCons (wB 1) (wNil))) (wPart (wC (.int 1))) (wNoPart))))
theorem wk__law_lots (Z : Fs K mg) {wf : WF} (hw : ∀ ds Q, ds.length = 1 → wf ds Q → wb__law_lots { nx := fun _ => Q .none, rt := Q } (startE ["n", "found", "crossing", "lot"] (ds.map .fz))) : FnG P w K mg base 1 Z.f__law_lots.a Z.f__law_lots.d ["n"] (spW K 1 wf) :=
  fn_pure (wf := wf) (wb := wb__law_lots) Z.f__law_lots.F sc__law_lots (fun cdv A outer s H hr hG => ⟨_,
    dss_cons (ds_set 1 sc__law_lots.nd (DL.fr (dl_lst (db_cons (de_tup (db_nil)) (db_nil))))) (dss_cons (ds_for PassesOwn.never rfl (di_range2 (by rfl) Z.n_range (DE.op (de_int)) (do_name 0)) (dg_name 2 sc__law_lots.nd) (dss_one (ds_set 1 sc__law_lots.nd (DL.fr (dl_op op_cat (@rs_cat _) (do_name 1) (DL.op (dl_lcV rfl sc__law_lots.nd (di_itemsK K rfl (de_name 1)) [("lot", 3)] (blkOk_by (N := ["n", "found", "crossing", "lot"]) (sc := defScope s__law_lots) (by decide +kernel)) (fun _ _ _ _ _ => dg_name 3 sc__law_lots.nd) (fun _ _ _ _ _ => dtt_nil) (fun _ _ _ _ _ => de_op (op_addK K rfl) (@rs_add _) (do_name 3) (DE.op (de_tup (db_cons (de_name 2) (db_nil))))) (by decide)))))))) (dss_one (ds_ret (de_sliceK K rfl (DL.op (dl_callB (cr_sortedK K rfl rfl (un70 hr)) (@cs_sorted _) bt_sorted (by rfl) Z.n_sorted (da_cons (do_name 1) (da_nil)))) (dpo_some (DE.op (de_int))) (dpo_none)))))⟩) hw
def wb__law_cut : WS :=
  wRet (wCall gLenX (wCons (wLc (wItems (w2 gIxA (wB 0) (wC (.int 1)))) (wGt 2 (wGcons (wGn 2) (wGcons (wGn 3) (wGnil)))) (wTrB (w2 gNe (w2 (gInA false) (wN 2) (wB 1)) (w2 (gInA false) (wN 3) (wB 1)))) (wC (.int 1)) [2, 3]) (wNil)))
theorem wk__law_cut (Z : Fs K mg) {wf : WF} (hw : ∀ ds Q, ds.length = 2 → wf ds Q → wb__law_cut { nx := fun _ => Q .none, rt := Q } (startE ["frame", "lot", "a", "b"] (ds.map .fz))) : FnG P w K mg base 1 Z.f__law_cut.a Z.f__law_cut.d ["frame", "lot"] (spW K 2 wf) :=
  fn_pure (wf := wf) (wb := wb__law_cut) Z.f__law_cut.F sc__law_cut (fun cdv A outer s H hr hG => ⟨_,
    dss_one (ds_ret (de_callB (cr_lenX K rfl) (@cs_lenX _) boot_len (by rfl) Z.n_len (da_cons (DL.op (dl_lcV rfl sc__law_cut.nd (di_itemsK K rfl (de_ixK K rfl (un1 hr) (fun _ _ => rfl) (do_name 0) (de_int))) [("a", 2), ("b", 3)] (blkOk_by (N := ["frame", "lot", "a", "b"]) (sc := defScope s__law_cut) (by decide +kernel)) (fun _ _ _ _ _ => dg_tupK K rfl rfl (dgs_cons (dg_name 2 sc__law_cut.nd) (dgs_cons (dg_name 3 sc__law_cut.nd) (dgs_nil)))) (fun _ _ _ _ _ => dtt_one (dt_cmp (op_neK K rfl (un64 hr)) (@rs_ne _) (by rfl) (DE.op (de_cmp1 (op_inK K rfl (un65 hr)) (@rs_in _) (by rfl) (de_name 2) (do_name 1))) (DE.op (de_cmp1 (op_inK K rfl (un65 hr)) (@rs_in _) (by rfl) (de_name 3) (do_name 1))))) (fun _ _ _ _ _ => de_int) (by decide))) (da_nil))))⟩) hw
def wb__law_within : WS :=
  wRet (wCall gLenX (wCons (wLc (wItems (w2 gIxA (wB 0) (wC (.int 1)))) (wGt 2 (wGcons (wGn 2) (wGcons (wGn 3) (wGnil)))) (wAndT (wTrB (w2 (gInA false) (wN 2) (wB 1))) (wTrB (w2 (gInA false) (wN 3) (wB 1)))) (wC (.int 1)) [2, 3]) (wNil)))
theorem wk__law_within (Z : Fs K mg) {wf : WF} (hw : ∀ ds Q, ds.length = 2 → wf ds Q → wb__law_within { nx := fun _ => Q .none, rt := Q } (startE ["frame", "lot", "a", "b"] (ds.map .fz))) : FnG P w K mg base 1 Z.f__law_within.a Z.f__law_within.d ["frame", "lot"] (spW K 2 wf) :=
  fn_pure (wf := wf) (wb := wb__law_within) Z.f__law_within.F sc__law_within (fun cdv A outer s H hr hG => ⟨_,
    dss_one (ds_ret (de_callB (cr_lenX K rfl) (@cs_lenX _) boot_len (by rfl) Z.n_len (da_cons (DL.op (dl_lcV rfl sc__law_within.nd (di_itemsK K rfl (de_ixK K rfl (un1 hr) (fun _ _ => rfl) (do_name 0) (de_int))) [("a", 2), ("b", 3)] (blkOk_by (N := ["frame", "lot", "a", "b"]) (sc := defScope s__law_within) (by decide +kernel)) (fun _ _ _ _ _ => dg_tupK K rfl rfl (dgs_cons (dg_name 2 sc__law_within.nd) (dgs_cons (dg_name 3 sc__law_within.nd) (dgs_nil)))) (fun _ _ _ _ _ => dtt_one (DW.t (dw_and (dt_cmp1 (op_inK K rfl (un65 hr)) (@rs_in _) (by rfl) (de_name 2) (do_name 1)) (dw_and1 (dt_cmp1 (op_inK K rfl (un65 hr)) (@rs_in _) (by rfl) (de_name 3) (do_name 1)))))) (fun _ _ _ _ _ => de_int) (by decide))) (da_nil))))⟩) hw
def wb__law_worth : WS :=
  wSeq (wAsg (wC (.int 0)) (wGn 2)) (wSeq (wFor (wItems (wN 0)) (wGt 2 (wGcons (wGn 3) (wGcons (wGn 4) (wGnil)))) (wSeq (wFor (wRng1 (wCall gLenX (wCons (wB 3) (wNil)))) (wGn 5) (wFor (wRng1 (w2 gIxA (wB 3) (wN 5))) (wGn 6) (wAsg (w2 gMulI (wB 4) (w2 gSubI (w2 gIxA (wB 1) (w2 gAdd (wB 5) (wC (.int 1)))) (w2 gIxA (wB 1) (wC (.int 0))))) (wGn 4)))) (wAsg (w2 gAdd (wB 2) (wB 4)) (wGn 2)))) (wRet (wN 2)))
theorem wk__law_worth (Z : Fs K mg) {wf : WF} (hw : ∀ ds Q, ds.length = 2 → wf ds Q → wb__law_worth { nx := fun _ => Q .none, rt := Q } (startE ["poly", "heights", "total", "powers", "number", "c", "lap"] (ds.map .fz))) : FnG P w K mg base 1 Z.f__law_worth.a Z.f__law_worth.d ["poly", "heights"] (spW K 2 wf) :=
  fn_pure (wf := wf) (wb := wb__law_worth) Z.f__law_worth.F sc__law_worth (fun cdv A outer s H hr hG => ⟨_,
    dss_cons (ds_set 2 sc__law_worth.nd (de_int)) (dss_cons (ds_for PassesOwn.never rfl (di_itemsK K rfl (de_name 0)) (dg_tupK K rfl rfl (dgs_cons (dg_name 3 sc__law_worth.nd) (dgs_cons (dg_name 4 sc__law_worth.nd) (dgs_nil)))) (dss_cons (ds_for PassesOwn.never rfl (di_range1 (by rfl) Z.n_range (DE.op (de_callB (cr_lenX K rfl) (@cs_lenX _) boot_len (by rfl) Z.n_len (da_cons (do_name 3) (da_nil))))) (dg_name 5 sc__law_worth.nd) (dss_one (ds_for PassesOwn.never rfl (di_range1 (by rfl) Z.n_range (DE.op (de_ixK K rfl (un1 hr) (fun _ _ => rfl) (do_name 3) (de_name 5)))) (dg_name 6 sc__law_worth.nd) (dss_one (ds_set 4 sc__law_worth.nd (de_op op_mulW (@rs_mulI _) (do_name 4) (DE.op (de_op op_sub (@rs_subI _) (DE.op (de_ixK K rfl (un1 hr) (fun _ _ => rfl) (do_name 1) (de_op (op_addK K rfl) (@rs_add _) (do_name 5) (DE.op (de_int))))) (DE.op (de_ixK K rfl (un1 hr) (fun _ _ => rfl) (do_name 1) (de_int))))))))))) (dss_one (ds_set 2 sc__law_worth.nd (de_op (op_addK K rfl) (@rs_add _) (do_name 2) (do_name 4)))))) (dss_one (ds_ret (de_name 2))))⟩) hw
def wb__law_of : WS :=
  wRet (w2 gIxA (wB 1) (wFnS 0 1 wfPick (wCons (wCall gLenX (wCons (wB 1) (wNil))) (wNil))))
theorem wk__law_of (Z : Fs K mg) {wf : WF} (G__law_pick : FnG P w K mg base 1 Z.f__law_pick.a Z.f__law_pick.d ["source", "many"] (spS K 1 wfPick)) (hw : ∀ ds Q, ds.length = 1 → wf ds Q → wb__law_of { nx := fun _ => Q .none, rt := Q } (startE ["source", "some"] (.src :: ds.map .fz))) : FnG P w K mg base 2 Z.f__law_of.a Z.f__law_of.d ["source", "some"] (spS K 1 wf) :=
  fn_src (wf := wf) (wb := wb__law_of) Z.f__law_of.F sc__law_of (fun cdv A outer s H hr hG => ⟨_,
    dss_one (ds_ret (de_ixK K rfl (un1 hr) (fun _ _ => rfl) (do_name 1) (de_fnSK K rfl 0 (G__law_pick.mono (by decide)) hr hG Z.f__law_pick.m Z.f__law_pick.F.kp Z.f__law_pick.b (by rfl) (pv 0) (db_cons (de_callB (cr_lenX K rfl) (@cs_lenX _) boot_len (by rfl) Z.n_len (da_cons (do_name 1) (da_nil))) (db_nil)))))⟩) hw
def wb__law_told : WS :=
  wRet (wCall gTuple (wCons (wCall gSorted (wCons (wLc (wItems (wN 0)) (wGn 1) (wTrB (w2 gNe (w2 gIxA (wB 0) (wN 1)) (wC (.int 0)))) (wTup (wCons (wN 1) (wCons (w2 gIxA (wB 0) (wN 1)) (wNil)))) [1]) (wNil))) (wNil)))
theorem wk__law_told (Z : Fs K mg) {wf : WF} (hw : ∀ ds Q, ds.length = 1 → wf ds Q → wb__law_told { nx := fun _ => Q .none, rt := Q } (startE ["numbers", "powers"] (ds.map .fz))) : FnG P w K mg base 1 Z.f__law_told.a Z.f__law_told.d ["numbers"] (spW K 1 wf) :=
  fn_pure (wf := wf) (wb := wb__law_told) Z.f__law_told.F sc__law_told (fun cdv A outer s H hr hG => ⟨_,
    dss_one (ds_ret (de_callT (cr_tupleK K rfl) (@cs_tuple _) boot_tuple (by rfl) Z.n_tuple (da_cons (DL.op (dl_callB (cr_sortedK K rfl rfl (un70 hr)) (@cs_sorted _) bt_sorted (by rfl) Z.n_sorted (da_cons (DL.op (dl_lcV rfl sc__law_told.nd (di_itemsK K rfl (de_name 0)) [("powers", 1)] (blkOk_by (N := ["numbers", "powers"]) (sc := defScope s__law_told) (by decide +kernel)) (fun _ _ _ _ _ => dg_name 1 sc__law_told.nd) (fun _ _ _ _ _ => dtt_one (dt_cmp (op_neK K rfl (un64 hr)) (@rs_ne _) (by rfl) (DE.op (de_ixK K rfl (un1 hr) (fun _ _ => rfl) (do_name 0) (de_name 1))) (DE.op (de_int)))) (fun _ _ _ _ _ => de_tup (db_cons (de_name 1) (db_cons (de_ixK K rfl (un1 hr) (fun _ _ => rfl) (do_name 0) (de_name 1)) (db_nil)))) (by decide))) (da_nil)))) (da_nil))))⟩) hw
def wb__law_any (wf__law_told : WF) : WS :=
  wSeq (wAsgL (wDNew) 3) (wSeq (wFor (wRng1 (w2 gAdd (wC (.int 1)) (wFnS 0 1 wfPick (wCons (wC (.int 3)) (wNil))))) (wGn 4) (wSeq (wAsgL (w2 gRepL (wLst (wCons (wC (.int 0)) (wNil))) (w2 gSubI (wB 1) (wC (.int 1)))) 5) (wSeq (wFor (wRng1 (wFnS 0 1 wfPick (wCons (w2 gAdd (wB 2) (wC (.int 1))) (wNil)))) (wGn 6) (wSeq (wAsg (wFnS 0 1 wfPick (wCons (w2 gSubI (wB 1) (wC (.int 1))) (wNil))) (wGn 7)) (wStore 5 (wN 7) (w2 gAdd (w2 gIxA (wB 5) (wN 7)) (wC (.int 1)))))) (wStore 3 (wCall gTuple (wCons (wB 5) (wNil))) (wFnS 0 1 wfOf (wCons (wLst (wCons (wC (.int 1)) (wCons (w1 gNeg (wC (.int 1))) (wCons (wC (.int 2)) (wCons (w1 gNeg (wC (.int 3))) (wCons (wC (.int 5)) (wNil))))))) (wNil))))))) (wFrz 3 (wRet (wFn 1 wf__law_told (wCons (wN 3) (wNil))))))
theorem wk__law_any (Z : Fs K mg) {wf__law_told : WF} {wf : WF} (G__law_pick : FnG P w K mg base 1 Z.f__law_pick.a Z.f__law_pick.d ["source", "many"] (spS K 1 wfPick)) (G__law_of : FnG P w K mg base 2 Z.f__law_of.a Z.f__law_of.d ["source", "some"] (spS K 1 wfOf)) (G__law_told : FnG P w K mg base 1 Z.f__law_told.a Z.f__law_told.d ["numbers"] (spW K 1 wf__law_told)) (hw : ∀ ds Q, ds.length = 2 → wf ds Q → wb__law_any wf__law_told { nx := fun _ => Q .none, rt := Q } (startE ["source", "n", "degree", "found", "lap", "powers", "step", "c"] (.src :: ds.map .fz))) : FnG P w K mg base 3 Z.f__law_any.a Z.f__law_any.d ["source", "n", "degree"] (spS K 2 wf) :=
  fn_src (wf := wf) (wb := wb__law_any wf__law_told) Z.f__law_any.F sc__law_any (fun cdv A outer s H hr hG => ⟨_,
    dss_cons (ds_setD 3 sc__law_any.nd (dd_nil)) (dss_cons (ds_for PassesOwn.never rfl (di_range1 (by rfl) Z.n_range (DE.op (de_op (op_addK K rfl) (@rs_add _) (DE.op (de_int)) (DE.op (de_fnSK K rfl 0 (G__law_pick.mono (by decide)) hr hG Z.f__law_pick.m Z.f__law_pick.F.kp Z.f__law_pick.b (by rfl) (pv 0) (db_cons (de_int) (db_nil))))))) (dg_name 4 sc__law_any.nd) (dss_cons (ds_setL 5 sc__law_any.nd (dl_op op_rep (@rs_repL _) (DL.op (dl_lst (db_cons (de_int) (db_nil)))) (DE.op (de_op op_sub (@rs_subI _) (do_name 1) (DE.op (de_int)))))) (dss_cons (ds_for PassesOwn.never rfl (di_range1 (by rfl) Z.n_range (DE.op (de_fnSK K rfl 0 (G__law_pick.mono (by decide)) hr hG Z.f__law_pick.m Z.f__law_pick.F.kp Z.f__law_pick.b (by rfl) (pv 0) (db_cons (de_op (op_addK K rfl) (@rs_add _) (do_name 2) (DE.op (de_int))) (db_nil))))) (dg_name 6 sc__law_any.nd) (dss_cons (ds_set 7 sc__law_any.nd (de_fnSK K rfl 0 (G__law_pick.mono (by decide)) hr hG Z.f__law_pick.m Z.f__law_pick.F.kp Z.f__law_pick.b (by rfl) (pv 0) (db_cons (de_op op_sub (@rs_subI _) (do_name 1) (DE.op (de_int))) (db_nil)))) (dss_one (ds_store 5 (un1 hr) (de_op (op_addK K rfl) (@rs_add _) (DE.op (de_ixK K rfl (un1 hr) (fun _ _ => rfl) (do_name 5) (de_name 7))) (DE.op (de_int))) (de_name 7) (pv 5))))) (dss_one (ds_store 3 (un1 hr) (de_fnSK K rfl 0 (G__law_of.mono (by decide)) hr hG Z.f__law_of.m Z.f__law_of.F.kp Z.f__law_of.b (by rfl) (pv 0) (db_cons (DL.fr (dl_lst (db_cons (de_int) (db_cons (de_neg (DE.op (de_int))) (db_cons (de_int) (db_cons (de_neg (DE.op (de_int))) (db_cons (de_int) (db_nil)))))))) (db_nil))) (de_callT (cr_tupleK K rfl) (@cs_tuple _) boot_tuple (by rfl) Z.n_tuple (da_cons (do_name 5) (da_nil))) (pv 3)))))) (dss_frz 3 (dss_one (ds_ret (de_fnK K rfl (G__law_told.mono (by decide)) hr hG Z.f__law_told.m Z.f__law_told.F.kp Z.f__law_told.b (by rfl) (db_cons (de_name 3) (db_nil)))))))⟩) hw
def wb_law (wf__law_frame wf__law_points wf_points_of wf__law_free_lots wf_heights_of_outs wf_outs_of_heights wf__law_lots wf__law_within wf__law_cut wf__law_any wf_values_at wf__law_worth wf_road_ends : WF) : WS :=
  wSeq (wFor (wRng1 (wC (.int 4))) (wGn 2) (wSeq (wAsg (wFnS 1 2 wf__law_frame (wCons (w2 gIxA (wLst (wCons (wC (.int 2)) (wCons (wC (.int 3)) (wCons (wC (.int 4)) (wCons (wC (.int 5)) (wNil)))))) (wN 2)) (wCons (w2 gIxA (wLst (wCons (wC (.int 4)) (wCons (wC (.int 4)) (wCons (wC (.int 3)) (wCons (wC (.int 2)) (wNil)))))) (wN 2)) (wNil)))) (wGn 3)) (wSeq (wPar [4, 5, 6, 7] (wMFz (w2 gIxA (wB 3) (wC (.int 0))) (wMFz (wCall gLenX (wCons (w2 gIxA (wB 3) (wC (.int 1))) (wNil))) (wMFz (wCall gRepr (wCons (wB 3) (wNil))) (wMFz (wFn 1 wf__law_points (wCons (wN 3) (wNil))) (wMNil)))))) (wSeq (wIf (wOrT (wTrB (w2 gNe (wCall gRepr (wCons (wFn 1 wf_points_of (wCons (wN 3) (wNil))) (wNil))) (wCall gRepr (wCons (wCall gTuple (wCons (wB 7) (wNil))) (wNil))))) (wTrB (w2 gNe (wCall gLenX (wCons (wB 7) (wNil))) (wCall gLenX (wCons (wFn 1 wf__law_free_lots (wCons (wN 3) (wNil))) (wNil)))))) (wRet (wC (.bool false))) (wNext)) (wSeq (wFor (wItems (wSl (wFnS 1 1 wfMixed (wCons (wN 7) (wNil))) (wNoPart) (wPart (wC (.int 4))))) (wGn 8) (wSeq (wAsg (w2 gAdd (wTup (wCons (w2 gSubI (wB 5) (wCall gSum (wCons (wB 8) (wNil)))) (wNil))) (wSl (wB 8) (wPart (wC (.int 1))) (wNoPart))) (wGn 9)) (wIf (wTrB (w2 gNe (wCall gRepr (wCons (wLst (wCons (wFn 1 wf_heights_of_outs (wCons (wN 9) (wNil))) (wCons (wFn 2 wf_outs_of_heights (wCons (wN 3) (wCons (wN 8) (wNil)))) (wNil)))) (wNil))) (wCall gRepr (wCons (wLst (wCons (wN 8) (wCons (wN 9) (wNil)))) (wNil))))) (wRet (wC (.bool false))) (wNext)))) (wSeq (wFor (wRng1 (wC (.int 6))) (wGn 10) (wSeq (wAsg (w2 gAdd (wTup (wCons (wC (.int 0)) (wNil))) (wCall gTuple (wCons (wLc (wRng2 (wC (.int 1)) (wB 4)) (wGn 17) (wYes) (w2 gSubI (wFnS 1 1 wfPick (wCons (w2 gAdd (wB 5) (wC (.int 2))) (wNil))) (wC (.int 1))) [17]) (wNil)))) (wGn 11)) (wSeq (wAsg (w2 gLeA (wCall gSum (wCons (wB 11) (wNil))) (wB 5)) (wGn 12)) (wSeq (wFor (wItems (wFn 1 wf__law_lots (wCons (wN 4) (wNil)))) (wGn 13) (wSeq (wAsg (wFn 2 wf__law_within (wCons (wN 3) (wCons (wN 13) (wNil)))) (wGn 14)) (wAsg (wAndV (wN 12) (wChain gLeA gLeA (wB 14) (wCall gSum (wCons (wLc (wItems (wN 13)) (wGn 17) (wYes) (w2 gIxA (wB 11) (wN 17)) [17]) (wNil))) (w2 gAdd (wB 14) (wFn 2 wf__law_cut (wCons (wN 3) (wCons (wN 13) (wNil))))))) (wGn 12)))) (wIf (wTrB (w2 gNe (wB 12) (w2 (gInA false) (wN 11) (wB 7)))) (wRet (wC (.bool false))) (wNext)))))) (wSeq (wAsg (wFnS 1 2 wf__law_any (wCons (wN 4) (wCons (wC (.int 4)) (wNil)))) (wGn 15)) (wSeq (wIf (wTrB (w2 gNe (wCall gRepr (wCons (wFn 2 wf_values_at (wCons (wCall gTuple (wCons (wB 7) (wNil))) (wCons (wN 15) (wNil)))) (wNil))) (wCall gRepr (wCons (wCall gTuple (wCons (wLc (wItems (wN 7)) (wGn 8) (wYes) (wFn 2 wf__law_worth (wCons (wN 15) (wCons (wN 8) (wNil)))) [8]) (wNil))) (wNil))))) (wRet (wC (.bool false))) (wNext)) (wSeq (wAsg (w2 gAdd (wTup (wCons (wC (.int 0)) (wNil))) (wCall gTuple (wCons (wLc (wRng2 (wC (.int 1)) (wB 4)) (wGn 17) (wYes) (wCall gLenX (wCons (wLc (wItems (w2 gIxA (wB 3) (wC (.int 1)))) (wGn 18) (wTrB (w2 (gInA false) (wN 17) (wB 18))) (wC (.int 1)) [18]) (wNil))) [17]) (wNil)))) (wGn 16)) (wSeq (wIf (wTrB (w2 gNe (wCall gRepr (wCons (wFn 1 wf_road_ends (wCons (wN 3) (wNil))) (wNil))) (wCall gRepr (wCons (wB 16) (wNil))))) (wRet (wC (.bool false))) (wNext)) (wIf (wOrT (wTrB (w2 gNe (wCall gSorted (wCons (wLc (wItems (wN 7)) (wGn 8) (wYes) (wCall gTuple (wCons (wLc (wZip false (wCons (wN 16) (wCons (wN 8) (wNil)))) (wGt 2 (wGcons (wGn 19) (wGcons (wGn 20) (wGnil)))) (wYes) (w2 gSubI (wB 19) (wB 20)) [19, 20]) (wNil))) [8]) (wNil))) (wB 7))) (wTrB (w2 gNe (wCall gRepr (wCons (wB 3) (wNil))) (wB 6)))) (wRet (wC (.bool false))) (wNext)))))))))))) (wRet (w2 gEq (wFn 1 wf_points_of (wCons (wTup (wCons (wC (.int 2)) (wCons (wTup (wCons (wTup (wCons (wC (.int 0)) (wCons (wC (.int 1)) (wNil)))) (wCons (wTup (wCons (wC (.int 0)) (wCons (wC (.int 1)) (wNil)))) (wNil)))) (wNil)))) (wNil))) (wTup (wCons (wTup (wCons (wC (.int 0)) (wCons (wC (.int 0)) (wNil)))) (wCons (wTup (wCons (wC (.int 0)) (wCons (wC (.int 1)) (wNil)))) (wCons (wTup (wCons (wC (.int 0)) (wCons (wC (.int 2)) (wNil)))) (wNil)))))))
theorem wk_law (Z : Fs K mg) {wf__law_frame wf__law_points wf_points_of wf__law_free_lots wf_heights_of_outs wf_outs_of_heights wf__law_lots wf__law_within wf__law_cut wf__law_any wf_values_at wf__law_worth wf_road_ends : WF} (G_source : FnG P w K mg base 1 Z.f__law_source.a Z.f__law_source.d ["script"] (spSource K)) (G__law_frame : FnG P w K mg base 3 Z.f__law_frame.a Z.f__law_frame.d ["source", "most", "more"] (spS K 2 wf__law_frame)) (G__law_points : FnG P w K mg base 1 Z.f__law_points.a Z.f__law_points.d ["frame"] (spW K 1 wf__law_points)) (G_points_of : FnG P w K mg base 3 Z.f_points_of.a Z.f_points_of.d ["frame"] (spW K 1 wf_points_of)) (G__law_free_lots : FnG P w K mg base 1 Z.f__law_free_lots.a Z.f__law_free_lots.d ["frame"] (spW K 1 wf__law_free_lots)) (G__law_mixed : FnG P w K mg base 2 Z.f__law_mixed.a Z.f__law_mixed.d ["source", "things"] (spS K 1 wfMixed)) (G_heights_of_outs : FnG P w K mg base 1 Z.f_heights_of_outs.a Z.f_heights_of_outs.d ["outs"] (spW K 1 wf_heights_of_outs)) (G_outs_of_heights : FnG P w K mg base 1 Z.f_outs_of_heights.a Z.f_outs_of_heights.d ["frame", "heights"] (spW K 2 wf_outs_of_heights)) (G__law_pick : FnG P w K mg base 1 Z.f__law_pick.a Z.f__law_pick.d ["source", "many"] (spS K 1 wfPick)) (G__law_lots : FnG P w K mg base 1 Z.f__law_lots.a Z.f__law_lots.d ["n"] (spW K 1 wf__law_lots)) (G__law_within : FnG P w K mg base 1 Z.f__law_within.a Z.f__law_within.d ["frame", "lot"] (spW K 2 wf__law_within)) (G__law_cut : FnG P w K mg base 1 Z.f__law_cut.a Z.f__law_cut.d ["frame", "lot"] (spW K 2 wf__law_cut)) (G__law_any : FnG P w K mg base 3 Z.f__law_any.a Z.f__law_any.d ["source", "n", "degree"] (spS K 2 wf__law_any)) (G_values_at : FnG P w K mg base 2 Z.f_values_at.a Z.f_values_at.d ["points", "poly"] (spW K 2 wf_values_at)) (G__law_worth : FnG P w K mg base 1 Z.f__law_worth.a Z.f__law_worth.d ["poly", "heights"] (spW K 2 wf__law_worth)) (G_road_ends : FnG P w K mg base 1 Z.f_road_ends.a Z.f_road_ends.d ["frame"] (spW K 1 wf_road_ends)) (hw : wb_law wf__law_frame wf__law_points wf_points_of wf__law_free_lots wf_heights_of_outs wf_outs_of_heights wf__law_lots wf__law_within wf__law_cut wf__law_any wf_values_at wf__law_worth wf_road_ends { nx := fun _ => False, rt := fun d => d = .bool true } (lawE ["script", "source", "lap", "frame", "n", "m", "kept", "points", "point", "outs", "look", "heights", "fits", "lot", "low", "poly", "ends", "c", "pair", "a", "b"])) : FnG P w K mg base 4 Z.f_law.a Z.f_law.d ["script"] (spLawG K) :=
  fn_law (wb := wb_law wf__law_frame wf__law_points wf_points_of wf__law_free_lots wf_heights_of_outs wf_outs_of_heights wf__law_lots wf__law_within wf__law_cut wf__law_any wf_values_at wf__law_worth wf_road_ends) Z.f_law.F sc_law (by decide) (fun cdv A outer s H hr hG => ⟨_, _, _, rfl, ps_set (i := 1) sc_law.nd rfl (by first | exact .inl rfl | exact .inr rfl) (pe_callG (G_source.mono (by decide)) hr hG (by rfl) Z.f__law_source.m Z.f__law_source.F.kp Z.f__law_source.b (pa_cons (pv 0) pa_nil)),
    dss_cons (ds_for PassesOwn.never rfl (di_range1 (by rfl) Z.n_range (DE.op (de_int))) (dg_name 2 sc_law.nd) (dss_cons (ds_set 3 sc_law.nd (de_fnSK K rfl 1 (G__law_frame.mono (by decide)) hr hG Z.f__law_frame.m Z.f__law_frame.F.kp Z.f__law_frame.b (by rfl) (pv 1) (db_cons (de_ixK K rfl (un1 hr) (fun _ _ => rfl) (DL.op (dl_lst (db_cons (de_int) (db_cons (de_int) (db_cons (de_int) (db_cons (de_int) (db_nil))))))) (de_name 2)) (db_cons (de_ixK K rfl (un1 hr) (fun _ _ => rfl) (DL.op (dl_lst (db_cons (de_int) (db_cons (de_int) (db_cons (de_int) (db_cons (de_int) (db_nil))))))) (de_name 2)) (db_nil))))) (dss_cons (ds_parT rfl (dm_fz (de_ixK K rfl (un1 hr) (fun _ _ => rfl) (do_name 3) (de_int)) (dm_fz (de_callB (cr_lenX K rfl) (@cs_lenX _) boot_len (by rfl) Z.n_len (da_cons (DE.op (de_ixK K rfl (un1 hr) (fun _ _ => rfl) (do_name 3) (de_int))) (da_nil))) (dm_fz (de_callB (cr_reprK K rfl (un70 hr) hG) (@cs_repr _) bt_repr (by rfl) Z.n_repr (da_cons (do_name 3) (da_nil))) (dm_fz (de_fnK K rfl (G__law_points.mono (by decide)) hr hG Z.f__law_points.m Z.f__law_points.F.kp Z.f__law_points.b (by rfl) (db_cons (de_name 3) (db_nil))) (dm_nil))))) (pgn_cons 4 sc_law.nd (pgn_cons 5 sc_law.nd (pgn_cons 6 sc_law.nd (pgn_cons 7 sc_law.nd (pgn_nil)))))) (dss_cons (ds_if (DW.t (dw_or (dt_cmp (op_neK K rfl (un64 hr)) (@rs_ne _) (by rfl) (DE.op (de_callB (cr_reprK K rfl (un70 hr) hG) (@cs_repr _) bt_repr (by rfl) Z.n_repr (da_cons (DE.op (de_fnK K rfl (G_points_of.mono (by decide)) hr hG Z.f_points_of.m Z.f_points_of.F.kp Z.f_points_of.b (by rfl) (db_cons (de_name 3) (db_nil)))) (da_nil)))) (DE.op (de_callB (cr_reprK K rfl (un70 hr) hG) (@cs_repr _) bt_repr (by rfl) Z.n_repr (da_cons (DE.op (de_callT (cr_tupleK K rfl) (@cs_tuple _) boot_tuple (by rfl) Z.n_tuple (da_cons (do_name 7) (da_nil)))) (da_nil))))) (dw_or1 (dt_cmp (op_neK K rfl (un64 hr)) (@rs_ne _) (by rfl) (DE.op (de_callB (cr_lenX K rfl) (@cs_lenX _) boot_len (by rfl) Z.n_len (da_cons (do_name 7) (da_nil)))) (DE.op (de_callB (cr_lenX K rfl) (@cs_lenX _) boot_len (by rfl) Z.n_len (da_cons (DE.op (de_fnK K rfl (G__law_free_lots.mono (by decide)) hr hG Z.f__law_free_lots.m Z.f__law_free_lots.F.kp Z.f__law_free_lots.b (by rfl) (db_cons (de_name 3) (db_nil)))) (da_nil)))))))) (dss_one (ds_ret (de_bl))) (dss_nil)) (dss_cons (ds_for PassesOwn.never rfl (di_itemsK K rfl (de_sliceK K rfl (DE.op (de_fnSK K rfl 1 (G__law_mixed.mono (by decide)) hr hG Z.f__law_mixed.m Z.f__law_mixed.F.kp Z.f__law_mixed.b (by rfl) (pv 1) (db_cons (de_name 7) (db_nil)))) (dpo_none) (dpo_some (DE.op (de_int))))) (dg_name 8 sc_law.nd) (dss_cons (ds_set 9 sc_law.nd (de_op (op_addK K rfl) (@rs_add _) (DE.op (de_tup (db_cons (de_op op_sub (@rs_subI _) (do_name 5) (DE.op (de_callB (cr_sumX K rfl rfl) (@cs_sumX _) bt_sum (by rfl) Z.n_sum (da_cons (do_name 8) (da_nil))))) (db_nil)))) (DE.op (de_sliceK K rfl (do_name 8) (dpo_some (DE.op (de_int))) (dpo_none))))) (dss_one (ds_if (dt_cmp (op_neK K rfl (un64 hr)) (@rs_ne _) (by rfl) (DE.op (de_callB (cr_reprK K rfl (un70 hr) hG) (@cs_repr _) bt_repr (by rfl) Z.n_repr (da_cons (DL.op (dl_lst (db_cons (de_fnK K rfl (G_heights_of_outs.mono (by decide)) hr hG Z.f_heights_of_outs.m Z.f_heights_of_outs.F.kp Z.f_heights_of_outs.b (by rfl) (db_cons (de_name 9) (db_nil))) (db_cons (de_fnK K rfl (G_outs_of_heights.mono (by decide)) hr hG Z.f_outs_of_heights.m Z.f_outs_of_heights.F.kp Z.f_outs_of_heights.b (by rfl) (db_cons (de_name 3) (db_cons (de_name 8) (db_nil)))) (db_nil))))) (da_nil)))) (DE.op (de_callB (cr_reprK K rfl (un70 hr) hG) (@cs_repr _) bt_repr (by rfl) Z.n_repr (da_cons (DL.op (dl_lst (db_cons (de_name 8) (db_cons (de_name 9) (db_nil))))) (da_nil))))) (dss_one (ds_ret (de_bl))) (dss_nil))))) (dss_cons (ds_for PassesOwn.never rfl (di_range1 (by rfl) Z.n_range (DE.op (de_int))) (dg_name 10 sc_law.nd) (dss_cons (ds_set 11 sc_law.nd (de_op (op_addK K rfl) (@rs_add _) (DE.op (de_tup (db_cons (de_int) (db_nil)))) (DE.op (de_callT (cr_tupleK K rfl) (@cs_tuple _) boot_tuple (by rfl) Z.n_tuple (da_cons (DL.op (dl_lcV rfl sc_law.nd (di_range2 (by rfl) Z.n_range (DE.op (de_int)) (do_name 4)) [("c", 17)] (blkOk_by (N := ["script", "source", "lap", "frame", "n", "m", "kept", "points", "point", "outs", "look", "heights", "fits", "lot", "low", "poly", "ends", "c", "pair", "a", "b"]) (sc := defScope s_law) (by decide +kernel)) (fun _ _ _ _ _ => dg_name 17 sc_law.nd) (fun _ _ _ _ _ => dtt_nil) (fun _ _ _ _ _ => de_op op_sub (@rs_subI _) (DE.op (de_fnSK K rfl 1 (G__law_pick.mono (by decide)) hr hG Z.f__law_pick.m Z.f__law_pick.F.kp Z.f__law_pick.b (by rfl) (pv 1) (db_cons (de_op (op_addK K rfl) (@rs_add _) (do_name 5) (DE.op (de_int))) (db_nil)))) (DE.op (de_int))) (by decide))) (da_nil)))))) (dss_cons (ds_set 12 sc_law.nd (de_cmp (op_leA K rfl (un1 hr)) (@rs_leA _) (by rfl) (DE.op (de_callB (cr_sumX K rfl rfl) (@cs_sumX _) bt_sum (by rfl) Z.n_sum (da_cons (do_name 11) (da_nil)))) (do_name 5))) (dss_cons (ds_for PassesOwn.never rfl (di_itemsK K rfl (de_fnK K rfl (G__law_lots.mono (by decide)) hr hG Z.f__law_lots.m Z.f__law_lots.F.kp Z.f__law_lots.b (by rfl) (db_cons (de_name 4) (db_nil)))) (dg_name 13 sc_law.nd) (dss_cons (ds_set 14 sc_law.nd (de_fnK K rfl (G__law_within.mono (by decide)) hr hG Z.f__law_within.m Z.f__law_within.F.kp Z.f__law_within.b (by rfl) (db_cons (de_name 3) (db_cons (de_name 13) (db_nil))))) (dss_one (ds_set 12 sc_law.nd (de_and (de_name 12) (de_one (de_chain (op_leA K rfl (un1 hr)) (@rs_leA _) (op_leA K rfl (un1 hr)) (@rs_leA _) (do_name 14) (DE.op (de_callB (cr_sumX K rfl rfl) (@cs_sumX _) bt_sum (by rfl) Z.n_sum (da_cons (DL.op (dl_lcV rfl sc_law.nd (di_itemsK K rfl (de_name 13)) [("c", 17)] (blkOk_by (N := ["script", "source", "lap", "frame", "n", "m", "kept", "points", "point", "outs", "look", "heights", "fits", "lot", "low", "poly", "ends", "c", "pair", "a", "b"]) (sc := defScope s_law) (by decide +kernel)) (fun _ _ _ _ _ => dg_name 17 sc_law.nd) (fun _ _ _ _ _ => dtt_nil) (fun _ _ _ _ _ => de_ixK K rfl (un1 hr) (fun _ _ => rfl) (do_name 11) (de_name 17)) (by decide))) (da_nil)))) (DE.op (de_op (op_addK K rfl) (@rs_add _) (do_name 14) (DE.op (de_fnK K rfl (G__law_cut.mono (by decide)) hr hG Z.f__law_cut.m Z.f__law_cut.F.kp Z.f__law_cut.b (by rfl) (db_cons (de_name 3) (db_cons (de_name 13) (db_nil)))))))))))))) (dss_one (ds_if (dt_cmp (op_neK K rfl (un64 hr)) (@rs_ne _) (by rfl) (do_name 12) (DE.op (de_cmp1 (op_inK K rfl (un65 hr)) (@rs_in _) (by rfl) (de_name 11) (do_name 7)))) (dss_one (ds_ret (de_bl))) (dss_nil))))))) (dss_cons (ds_set 15 sc_law.nd (de_fnSK K rfl 1 (G__law_any.mono (by decide)) hr hG Z.f__law_any.m Z.f__law_any.F.kp Z.f__law_any.b (by rfl) (pv 1) (db_cons (de_name 4) (db_cons (de_int) (db_nil))))) (dss_cons (ds_if (dt_cmp (op_neK K rfl (un64 hr)) (@rs_ne _) (by rfl) (DE.op (de_callB (cr_reprK K rfl (un70 hr) hG) (@cs_repr _) bt_repr (by rfl) Z.n_repr (da_cons (DE.op (de_fnK K rfl (G_values_at.mono (by decide)) hr hG Z.f_values_at.m Z.f_values_at.F.kp Z.f_values_at.b (by rfl) (db_cons (de_callT (cr_tupleK K rfl) (@cs_tuple _) boot_tuple (by rfl) Z.n_tuple (da_cons (do_name 7) (da_nil))) (db_cons (de_name 15) (db_nil))))) (da_nil)))) (DE.op (de_callB (cr_reprK K rfl (un70 hr) hG) (@cs_repr _) bt_repr (by rfl) Z.n_repr (da_cons (DE.op (de_callT (cr_tupleK K rfl) (@cs_tuple _) boot_tuple (by rfl) Z.n_tuple (da_cons (DL.op (dl_lcV rfl sc_law.nd (di_itemsK K rfl (de_name 7)) [("point", 8)] (blkOk_by (N := ["script", "source", "lap", "frame", "n", "m", "kept", "points", "point", "outs", "look", "heights", "fits", "lot", "low", "poly", "ends", "c", "pair", "a", "b"]) (sc := defScope s_law) (by decide +kernel)) (fun _ _ _ _ _ => dg_name 8 sc_law.nd) (fun _ _ _ _ _ => dtt_nil) (fun _ _ _ _ _ => de_fnK K rfl (G__law_worth.mono (by decide)) hr hG Z.f__law_worth.m Z.f__law_worth.F.kp Z.f__law_worth.b (by rfl) (db_cons (de_name 15) (db_cons (de_name 8) (db_nil)))) (by decide))) (da_nil)))) (da_nil))))) (dss_one (ds_ret (de_bl))) (dss_nil)) (dss_cons (ds_set 16 sc_law.nd (de_op (op_addK K rfl) (@rs_add _) (DE.op (de_tup (db_cons (de_int) (db_nil)))) (DE.op (de_callT (cr_tupleK K rfl) (@cs_tuple _) boot_tuple (by rfl) Z.n_tuple (da_cons (DL.op (dl_lcV rfl sc_law.nd (di_range2 (by rfl) Z.n_range (DE.op (de_int)) (do_name 4)) [("c", 17)] (blkOk_by (N := ["script", "source", "lap", "frame", "n", "m", "kept", "points", "point", "outs", "look", "heights", "fits", "lot", "low", "poly", "ends", "c", "pair", "a", "b"]) (sc := defScope s_law) (by decide +kernel)) (fun _ _ _ _ _ => dg_name 17 sc_law.nd) (fun _ _ _ _ _ => dtt_nil) (fun _ _ _ _ _ => de_callB (cr_lenX K rfl) (@cs_lenX _) boot_len (by rfl) Z.n_len (da_cons (DL.op (dl_lcV rfl sc_law.nd (di_itemsK K rfl (de_ixK K rfl (un1 hr) (fun _ _ => rfl) (do_name 3) (de_int))) [("pair", 18)] (blkOk_by (by rfl)) (fun _ _ _ _ _ => dg_name 18 sc_law.nd) (fun _ _ _ _ _ => dtt_one (dt_cmp1 (op_inK K rfl (un65 hr)) (@rs_in _) (by rfl) (de_name 17) (do_name 18))) (fun _ _ _ _ _ => de_int) (by decide))) (da_nil))) (by decide))) (da_nil)))))) (dss_cons (ds_if (dt_cmp (op_neK K rfl (un64 hr)) (@rs_ne _) (by rfl) (DE.op (de_callB (cr_reprK K rfl (un70 hr) hG) (@cs_repr _) bt_repr (by rfl) Z.n_repr (da_cons (DE.op (de_fnK K rfl (G_road_ends.mono (by decide)) hr hG Z.f_road_ends.m Z.f_road_ends.F.kp Z.f_road_ends.b (by rfl) (db_cons (de_name 3) (db_nil)))) (da_nil)))) (DE.op (de_callB (cr_reprK K rfl (un70 hr) hG) (@cs_repr _) bt_repr (by rfl) Z.n_repr (da_cons (do_name 16) (da_nil))))) (dss_one (ds_ret (de_bl))) (dss_nil)) (dss_one (ds_if (DW.t (dw_or (dt_cmp (op_neK K rfl (un64 hr)) (@rs_ne _) (by rfl) (DL.op (dl_callB (cr_sortedK K rfl rfl (un70 hr)) (@cs_sorted _) bt_sorted (by rfl) Z.n_sorted (da_cons (DL.op (dl_lcV rfl sc_law.nd (di_itemsK K rfl (de_name 7)) [("point", 8)] (blkOk_by (N := ["script", "source", "lap", "frame", "n", "m", "kept", "points", "point", "outs", "look", "heights", "fits", "lot", "low", "poly", "ends", "c", "pair", "a", "b"]) (sc := defScope s_law) (by decide +kernel)) (fun _ _ _ _ _ => dg_name 8 sc_law.nd) (fun _ _ _ _ _ => dtt_nil) (fun _ _ _ _ _ => de_callT (cr_tupleK K rfl) (@cs_tuple _) boot_tuple (by rfl) Z.n_tuple (da_cons (DL.op (dl_lcV rfl sc_law.nd (di_zpPK K rfl (by rfl) Z.n_zip (db_cons (de_name 16) (db_cons (de_name 8) (db_nil)))) [("a", 19), ("b", 20)] (blkOk_by (by rfl)) (fun _ _ _ _ _ => dg_tupK K rfl rfl (dgs_cons (dg_name 19 sc_law.nd) (dgs_cons (dg_name 20 sc_law.nd) (dgs_nil)))) (fun _ _ _ _ _ => dtt_nil) (fun _ _ _ _ _ => de_op op_sub (@rs_subI _) (do_name 19) (do_name 20)) (by decide))) (da_nil))) (by decide))) (da_nil)))) (do_name 7)) (dw_or1 (dt_cmp (op_neK K rfl (un64 hr)) (@rs_ne _) (by rfl) (DE.op (de_callB (cr_reprK K rfl (un70 hr) hG) (@cs_repr _) bt_repr (by rfl) Z.n_repr (da_cons (do_name 3) (da_nil)))) (do_name 6))))) (dss_one (ds_ret (de_bl))) (dss_nil))))))))))))) (dss_one (ds_ret (de_cmp (op_eqK K rfl (un64 hr)) (@rs_eq _) (by rfl) (DE.op (de_fnK K rfl (G_points_of.mono (by decide)) hr hG Z.f_points_of.m Z.f_points_of.F.kp Z.f_points_of.b (by rfl) (db_cons (de_tup (db_cons (de_int) (db_cons (de_tup (db_cons (de_tup (db_cons (de_int) (db_cons (de_int) (db_nil)))) (db_cons (de_tup (db_cons (de_int) (db_cons (de_int) (db_nil)))) (db_nil)))) (db_nil)))) (db_nil)))) (DE.op (de_tup (db_cons (de_tup (db_cons (de_int) (db_cons (de_int) (db_nil)))) (db_cons (de_tup (db_cons (de_int) (db_cons (de_int) (db_nil)))) (db_cons (de_tup (db_cons (de_int) (db_cons (de_int) (db_nil)))) (db_nil)))))))))⟩) hw
end
-- levels: heights_of_outs 1, outs_of_heights 1, with_one 1, outs_rows 2, points_of 3, worth_of 1, values_at 2, road_ends 1, _law_source 1, _law_pick 1, _law_mixed 2, _law_frame 3, _law_points 1, _law_free_lots 1, _law_lots 1, _law_cut 1, _law_within 1, _law_worth 1, _law_of 2, _law_told 1, _law_any 3, law 4
end K33

set_option Elab.async false
set_option linter.all false
set_option maxRecDepth 100000
/-! K64A: rows over lots of crossings, in plain words: sums over a lot, roads within, rows of outs told by lots (the theorem of Hakimi),
between rows at a road. No program in sight. -/
namespace Bet

def iv (b : Bool) (d : Int) : Int := if b = true then d else 0
theorem iv_oa (x y : Bool) (d : Int) : iv (x || y) d + iv (x && y) d = iv x d + iv y d := by cases x <;> cases y <;> simp [iv]
theorem iv4 : ∀ s1 s2 t1 t2 : Bool, iv (s1 && s2) 1 + iv (t1 && t2) 1 ≤ iv ((s1 || t1) && (s2 || t2)) 1 + iv ((s1 && t1) && (s2 && t2)) 1 := by decide
/-- the sum of the row r, whose first place is k, over S -/
def smO (S : Int → Bool) : Int → List Int → Int
  | _, [] => 0
  | k, x :: t => (if S k = true then x else 0) + smO S (k + 1) t
def Sm (r : List Int) (S : Int → Bool) : Int := smO S 0 r
theorem smO_congr {S T : Int → Bool} : ∀ {r : List Int} {k : Int}, (∀ c, k ≤ c → c < k + r.length → S c = T c) → smO S k r = smO T k r
  | [], _, _ => rfl
  | x :: t, k, h => by
    rw [smO, smO, h k (Int.le_refl _) (by rw [List.length_cons]; omega), smO_congr fun c h1 h2 => h c (by omega) (by rw [List.length_cons]; omega)]
theorem smO_add (S T : Int → Bool) : ∀ (r : List Int) (k : Int), smO (fun c => S c || T c) k r + smO (fun c => S c && T c) k r = smO S k r + smO T k r
  | [], _ => rfl
  | x :: t, k => by
    have ih := smO_add S T t (k + 1)
    have z := iv_oa (S k) (T k) x
    unfold iv at z
    simp only [smO]
    omega
theorem smO_true : ∀ (r : List Int) (k : Int), smO (fun _ => true) k r = r.sum
  | [], _ => rfl
  | x :: t, k => by rw [smO, smO_true t, if_pos rfl, List.sum_cons]
theorem smO_false : ∀ (r : List Int) (k : Int), smO (fun _ => false) k r = 0
  | [], _ => rfl
  | x :: t, k => by rw [smO, smO_false t, if_neg Bool.false_ne_true]; rfl
theorem smO_set (S : Int → Bool) : ∀ (r : List Int) (k : Int) (i : Nat) (v : Int), i < r.length → smO S k (r.set i v) = smO S k r + if S (k + i) = true then v - r.getD i 0 else 0
  | [], _, _, _, h => by simp at h
  | x :: t, k, 0, v, _ => by
    rw [List.set_cons_zero, smO, smO, List.getD_cons_zero]
    simp only [Int.natCast_zero, Int.add_zero]
    split <;> omega
  | x :: t, k, i + 1, v, h => by
    have h' : i < t.length := by rw [List.length_cons] at h; omega
    rw [List.set_cons_succ, smO, smO, smO_set S t (k + 1) i v h', List.getD_cons_succ]
    have e : k + 1 + (i : Int) = k + ((i + 1 : Nat) : Int) := by omega
    rw [e]
    omega
theorem smO_ext : ∀ {r r' : List Int} {k : Int}, r.length = r'.length → (∀ S, smO S k r = smO S k r') → r = r'
  | [], [], _, _, _ => rfl
  | [], _ :: _, _, h, _ => by simp at h
  | _ :: _, [], _, h, _ => by simp at h
  | x :: t, y :: u, k, hl, h => by
    have hl' : t.length = u.length := by simpa using hl
    have off : ∀ (z : List Int), smO (fun c => decide (c = k)) (k + 1) z = 0 := fun z => by
      rw [← smO_false z (k + 1)]
      exact smO_congr fun c h1 _ => decide_eq_false (by omega)
    have e1 := h fun c => decide (c = k)
    rw [smO, smO, off, off, if_pos (decide_eq_true rfl), if_pos (decide_eq_true rfl)] at e1
    have e2 : t = u := smO_ext (k := k + 1) hl' fun S => by
      have q := h fun c => S c && decide (c ≠ k)
      rw [smO, smO] at q
      have off2 : ∀ (z : List Int), smO (fun c => S c && decide (c ≠ k)) (k + 1) z = smO S (k + 1) z := fun z =>
        smO_congr fun c h1 _ => by
          have : decide (c ≠ k) = true := decide_eq_true (by omega)
          rw [this, Bool.and_true]
      rw [off2, off2, if_neg (by simp), if_neg (by simp)] at q
      omega
    rw [e2, show x = y by omega]
theorem Sm_ext {r r' : List Int} (hl : r.length = r'.length) (h : ∀ S, Sm r S = Sm r' S) : r = r' := smO_ext hl h
theorem Sm_add (r : List Int) (S T : Int → Bool) : Sm r (fun c => S c || T c) + Sm r (fun c => S c && T c) = Sm r S + Sm r T := smO_add S T r 0
theorem Sm_congr {r : List Int} {S T : Int → Bool} (h : ∀ c : Int, 0 ≤ c → c < r.length → S c = T c) : Sm r S = Sm r T := smO_congr fun c h1 h2 => h c h1 (by omega)
theorem Sm_true (r : List Int) : Sm r (fun _ => true) = r.sum := smO_true r 0
theorem Sm_false (r : List Int) : Sm r (fun _ => false) = 0 := smO_false r 0
/-- the number of r at c -/
def at_ (r : List Int) (c : Int) : Int := r.getD c.toNat 0
/-- d more at c -/
def inc (r : List Int) (c d : Int) : List Int := r.set c.toNat (at_ r c + d)
theorem inc_len (r : List Int) (c d : Int) : (inc r c d).length = r.length := List.length_set
theorem Sm_inc {r : List Int} {c d : Int} (S : Int → Bool) (h0 : 0 ≤ c) (h1 : c < r.length) : Sm (inc r c d) S = Sm r S + iv (S c) d := by
  have z := smO_set S r 0 c.toNat (at_ r c + d) (by omega)
  have e : (0 : Int) + (c.toNat : Int) = c := by omega
  rw [e] at z
  show smO S 0 (r.set c.toNat _) = _
  rw [z]
  unfold iv
  split
  · show smO S 0 r + (at_ r c + d - at_ r c) = _
    unfold Sm
    omega
  · rfl
theorem Sm_one {r : List Int} {c : Int} (h0 : 0 ≤ c) (h1 : c < r.length) : Sm r (fun x => decide (x = c)) = at_ r c := by
  have z := Sm_inc (d := - at_ r c) (r := r) (c := c) (fun x => decide (x = c)) h0 h1
  have zero : Sm (inc r c (- at_ r c)) (fun x => decide (x = c)) = 0 := by
    have go : ∀ (t : List Int) (k : Int) (i : Nat), i < t.length → smO (fun x => decide (x = k + i)) k (t.set i 0) = 0 := by
      intro t
      induction t with
      | nil => intro k i h; simp at h
      | cons x t ih =>
        intro k i h
        cases i with
        | zero =>
          rw [List.set_cons_zero, smO]
          have : smO (fun x => decide (x = k + ((0 : Nat) : Int))) (k + 1) t = 0 := by
            rw [← smO_false t (k + 1)]
            exact smO_congr fun c h1 _ => decide_eq_false (by omega)
          rw [this]
          split <;> rfl
        | succ i =>
          rw [List.set_cons_succ, smO, if_neg (by simp; omega)]
          have e := ih (k + 1) i (by rw [List.length_cons] at h; omega)
          have e2 : (fun x : Int => decide (x = k + 1 + (i : Int))) = fun x => decide (x = k + ((i + 1 : Nat) : Int)) := by
            funext x
            have : k + 1 + (i : Int) = k + ((i + 1 : Nat) : Int) := by omega
            rw [this]
          rw [e2] at e
          rw [e]
          rfl
    have q := go r 0 c.toNat (by omega)
    have e : (0 : Int) + (c.toNat : Int) = c := by omega
    rw [e] at q
    show smO _ 0 (r.set c.toNat (at_ r c + - at_ r c)) = 0
    rw [show at_ r c + - at_ r c = 0 by omega]
    exact q
  rw [zero] at z
  unfold iv at z
  rw [if_pos (decide_eq_true rfl)] at z
  omega
/-! ### roads within a lot -/
abbrev Rd := Int × Int
def isIn (S : Int → Bool) (p : Rd) : Bool := S p.1 && S p.2
def cnt (p : List Rd) (S : Int → Bool) : Int := ((p.filter (isIn S)).length : Nat)
theorem cnt_cons (q : Rd) (p : List Rd) (S : Int → Bool) : cnt (q :: p) S = iv (isIn S q) 1 + cnt p S := by
  unfold cnt iv
  rw [List.filter_cons]
  split
  · rw [List.length_cons]; omega
  · omega
theorem cnt_perm {p q : List Rd} (h : p.Perm q) (S : Int → Bool) : cnt p S = cnt q S := by
  unfold cnt
  rw [(h.filter _).length_eq]
theorem cnt_snoc (p : List Rd) (q : Rd) (S : Int → Bool) : cnt (p ++ [q]) S = cnt p S + iv (isIn S q) 1 := by
  rw [cnt_perm (List.perm_append_singleton q p), cnt_cons]
  omega
theorem cnt_nonneg (p : List Rd) (S : Int → Bool) : 0 ≤ cnt p S := by unfold cnt; omega
theorem cnt_super (S T : Int → Bool) : ∀ p : List Rd, cnt p S + cnt p T ≤ cnt p (fun c => S c || T c) + cnt p (fun c => S c && T c)
  | [] => Int.le_refl _
  | q :: p => by
    have ih := cnt_super S T p
    rw [cnt_cons, cnt_cons, cnt_cons, cnt_cons]
    have : iv (isIn S q) 1 + iv (isIn T q) 1 ≤ iv (isIn (fun c => S c || T c) q) 1 + iv (isIn (fun c => S c && T c) q) 1 := iv4 (S q.1) (S q.2) (T q.1) (T q.2)
    omega
theorem cnt_congr {S T : Int → Bool} {n : Int} : ∀ {p : List Rd}, W2.Good n p → (∀ c, 0 ≤ c → c < n → S c = T c) → cnt p S = cnt p T
  | [], _, _ => rfl
  | q :: p, hg, h => by
    have hq := hg q List.mem_cons_self
    rw [cnt_cons, cnt_cons, cnt_congr (fun x hx => hg x (List.mem_cons_of_mem _ hx)) h]
    unfold isIn
    rw [h _ hq.1.1 hq.1.2, h _ hq.2.1 hq.2.2]
theorem cnt_true (p : List Rd) : cnt p (fun _ => true) = p.length := by
  unfold cnt
  have : p.filter (isIn fun _ => true) = p := List.filter_eq_self.mpr fun _ _ => rfl
  rw [this]
theorem cnt_false (p : List Rd) : cnt p (fun _ => false) = 0 := by
  unfold cnt
  have : p.filter (isIn fun _ => false) = [] := List.filter_eq_nil_iff.mpr fun _ _ => by simp [isIn]
  rw [this]
  rfl
/-! ### rows of outs -/
structure Chr (n : Nat) (p : List Rd) (r : List Int) : Prop where
  len : r.length = n
  sum : r.sum = p.length
  cut : ∀ S, cnt p S ≤ Sm r S
theorem sum_inc {r : List Int} {c d : Int} (h0 : 0 ≤ c) (h1 : c < r.length) : (inc r c d).sum = r.sum + d := by
  rw [← Sm_true, Sm_inc _ h0 h1, Sm_true]
  rfl
theorem inc_inc {r : List Int} {c d e : Int} (h0 : 0 ≤ c) (h1 : c < r.length) (z : d + e = 0) : inc (inc r c d) c e = r := by
  refine Sm_ext (by rw [inc_len, inc_len]) fun S => ?_
  rw [Sm_inc _ h0 (by rw [inc_len]; exact h1), Sm_inc _ h0 h1]
  unfold iv
  split <;> omega
theorem chr_zero {n : Nat} {r : List Int} (h : Chr n [] r) : r = List.replicate n 0 := by
  have nn : ∀ c : Int, 0 ≤ c → c < r.length → 0 ≤ at_ r c := fun c h0 h1 => by
    have := h.cut fun x => decide (x = c)
    rw [Sm_one h0 h1] at this
    exact this
  have go : ∀ (t : List Int), (∀ x ∈ t, 0 ≤ x) → t.sum = 0 → t = List.replicate t.length 0 := by
    intro t
    induction t with
    | nil => intro _ _; rfl
    | cons x t ih =>
      intro h0 hs
      have hx := h0 x List.mem_cons_self
      have pos : ∀ (t : List Int), (∀ x ∈ t, 0 ≤ x) → 0 ≤ t.sum := by
        intro t
        induction t with
        | nil => intro _; exact Int.le_refl _
        | cons y t ih => intro h; rw [List.sum_cons]; have := h y List.mem_cons_self; have := ih fun z hz => h z (List.mem_cons_of_mem _ hz); omega
      have ht := pos t fun z hz => h0 z (List.mem_cons_of_mem _ hz)
      rw [List.sum_cons] at hs
      rw [List.length_cons, List.replicate_succ, ← ih (fun z hz => h0 z (List.mem_cons_of_mem _ hz)) (by omega), show x = 0 by omega]
  have := go r (fun x hx => by
    obtain ⟨i, hi, e⟩ := List.getElem_of_mem hx
    have z := nn i (by omega) (by omega)
    unfold at_ at z
    rw [Int.toNat_natCast, List.getD_eq_getElem?_getD, List.getElem?_eq_getElem hi] at z
    rw [← e]
    exact z) (by rw [h.sum]; rfl)
  rw [h.len] at this
  exact this
theorem chr_nil (n : Nat) : Chr n [] (List.replicate n 0) := by
  have z : ∀ (n : Nat) (S : Int → Bool) (k : Int), smO S k (List.replicate n 0) = 0 := by
    intro n S
    induction n with
    | zero => intro k; rfl
    | succ n ih => intro k; rw [List.replicate_succ, smO, ih]; split <;> rfl
  exact ⟨List.length_replicate, by rw [← Sm_true]; exact z n _ 0, fun S => by unfold Sm; rw [z]; exact Int.le_refl _⟩
theorem chr_step {n : Nat} {p : List Rd} {a b : Int} {r : List Int} (ha : 0 ≤ a ∧ a < n) (hb : 0 ≤ b ∧ b < n) : Chr n (p ++ [(a, b)]) r ↔ ∃ r', Chr n p r' ∧ (r = inc r' a 1 ∨ r = inc r' b 1) := by
  constructor
  · intro h
    have la : a < r.length := by rw [h.len]; exact ha.2
    have lb : b < r.length := by rw [h.len]; exact hb.2
    have hs : r.sum = p.length + 1 := by rw [h.sum, List.length_append]; rfl
    have mk : ∀ c : Int, 0 ≤ c → c < r.length → (∀ S, cnt p S ≤ Sm r S - iv (S c) 1) → Chr n p (inc r c (-1)) := fun c h0 h1 q =>
      ⟨by rw [inc_len]; exact h.len, by rw [sum_inc h0 h1]; omega, fun S => by
        rw [Sm_inc S h0 h1]
        have := q S
        unfold iv at *
        split <;> simp_all <;> omega⟩
    by_cases qa : ∀ S, cnt p S ≤ Sm r S - iv (S a) 1
    · exact ⟨_, mk a ha.1 la qa, .inl (inc_inc ha.1 la (by omega)).symm⟩
    · by_cases qb : ∀ S, cnt p S ≤ Sm r S - iv (S b) 1
      · exact ⟨_, mk b hb.1 lb qb, .inr (inc_inc hb.1 lb (by omega)).symm⟩
      · exfalso
        obtain ⟨S, hS⟩ := Classical.not_forall.mp qa
        obtain ⟨T, hT⟩ := Classical.not_forall.mp qb
        have c1 := h.cut S
        have c2 := h.cut T
        have c3 := h.cut fun c => S c || T c
        have c4 := h.cut fun c => S c && T c
        have su := cnt_super S T p
        have ad := Sm_add r S T
        rw [cnt_snoc] at c1 c2 c3 c4
        unfold iv isIn at *
        simp only at *
        cases sa : S a <;> cases sb : S b <;> cases ta : T a <;> cases tb : T b <;> simp [sa, sb, ta, tb] at * <;> omega
  · rintro ⟨r', h, e⟩
    have la : a < r'.length := by rw [h.len]; exact ha.2
    have lb : b < r'.length := by rw [h.len]; exact hb.2
    have mk : ∀ c : Int, 0 ≤ c → c < r'.length → (∀ S, isIn S (a, b) = true → S c = true) → Chr n (p ++ [(a, b)]) (inc r' c 1) := fun c h0 h1 q =>
      ⟨by rw [inc_len]; exact h.len, by rw [sum_inc h0 h1, h.sum, List.length_append]; rfl, fun S => by
        rw [Sm_inc S h0 h1, cnt_snoc]
        have := h.cut S
        have := q S
        unfold iv
        cases e1 : isIn S (a, b) <;> cases e2 : S c <;> simp_all <;> omega⟩
    rcases e with rfl | rfl
    · exact mk a ha.1 la fun S hS => by unfold isIn at hS; simp at hS; exact hS.1
    · exact mk b hb.1 lb fun S hS => by unfold isIn at hS; simp at hS; exact hS.2
end Bet

set_option Elab.async false
set_option linter.all false
set_option maxRecDepth 100000
/-! K64B: between rows at one road: straight rows, the frame with the road shut, the frame without it. -/
namespace Bet
def pos (x : Int) : Int := iv (decide (0 < x)) 1
theorem pos_two {x y u i : Int} (e : x + y = u + i) : pos x + pos y ≤ 1 + pos u + pos i := by
  unfold pos iv
  by_cases a1 : 0 < x <;> by_cases a2 : 0 < y <;> by_cases a3 : 0 < u <;> by_cases a4 : 0 < i <;> simp [a1, a2, a3, a4] <;> omega
theorem pos_opp {x y : Int} (e : x + y = 0) (h : x ≠ 0) : pos x + pos y = 1 := by
  unfold pos iv
  by_cases a1 : 0 < x <;> by_cases a2 : 0 < y <;> simp [a1, a2] <;> omega
theorem pos_zero : pos 0 = 0 := rfl
structure BT (n : Nat) (p : List Rd) (h r : List Int) : Prop where
  len : r.length = n
  sum : r.sum = p.length
  cut : ∀ S, cnt p S + pos (Sm h S) ≤ Sm r S
theorem pos_nn (x : Int) : 0 ≤ pos x := by unfold pos iv; split <;> decide
theorem BT.chr {n : Nat} {p : List Rd} {h r : List Int} (b : BT n p h r) : Chr n p r := ⟨b.len, b.sum, fun S => by have := b.cut S; have := pos_nn (Sm h S); omega⟩
theorem BT.perm {n : Nat} {p q : List Rd} {h r : List Int} (b : BT n p h r) (e : p.Perm q) : BT n q h r := ⟨b.len, by rw [b.sum, e.length_eq], fun S => by rw [← cnt_perm e]; exact b.cut S⟩
theorem greatest {P : Int → Prop} {B : Int} (hB : ∀ z, P z → z ≤ B) : ∀ (k : Nat) (z0 : Int), P z0 → B - z0 ≤ k → ∃ m, P m ∧ ∀ z, P z → z ≤ m
  | 0, z0, h0, hk => ⟨z0, h0, fun z hz => by have := hB z hz; omega⟩
  | k + 1, z0, h0, hk => by
    by_cases q : ∃ z, P z ∧ z0 < z
    · obtain ⟨z, hz, lt⟩ := q
      exact greatest hB k z hz (by omega)
    · exact ⟨z0, h0, fun z hz => Int.not_lt.mp fun lt => q ⟨z, hz, lt⟩⟩
/-- nothing but what is apart -/
theorem apart_none {n : Nat} {p : List Rd} {h r : List Int} {S : Int → Bool} (hS : ∀ q ∈ p, S q.1 = S q.2) (h0 : h.sum = 0) (hne : Sm h S ≠ 0) (b : BT n p h r) : False := by
  have c1 := b.cut S
  have c2 := b.cut fun c => !S c
  have comp : ∀ x : List Int, Sm x S + Sm x (fun c => !S c) = x.sum := fun x => by
    rw [← Sm_add, ← Sm_true]
    have e1 : (fun c => S c || !S c) = fun _ => true := by funext c; cases S c <;> rfl
    have e2 : (fun c => S c && !S c) = fun _ => false := by funext c; cases S c <;> rfl
    rw [e1, e2, Sm_false]
    omega
  have cc : ∀ q : List Rd, (∀ x ∈ q, S x.1 = S x.2) → cnt q S + cnt q (fun c => !S c) = q.length := by
    intro q
    induction q with
    | nil => intro _; rfl
    | cons x q ih =>
      intro hq
      have := ih fun y hy => hq y (List.mem_cons_of_mem _ hy)
      have e := hq x List.mem_cons_self
      rw [cnt_cons, cnt_cons, List.length_cons]
      have : iv (isIn S x) 1 + iv (isIn (fun c => !S c) x) 1 = 1 := by
        unfold isIn
        simp only
        rw [e]
        cases S x.2 <;> rfl
      omega
  have c3 := cc p hS
  have c4 := comp r
  have c5 := comp h
  rw [h0] at c5
  have c6 := pos_opp c5 hne
  have := b.sum
  omega
/-! ### at one road -/
section
variable {n : Nat} {p R : List Rd} {a b : Int} {h : List Int}
structure Cx (n : Nat) (p R : List Rd) (a b : Int) (h : List Int) : Prop where
  ha : 0 ≤ a ∧ a < n
  hb : 0 ≤ b ∧ b < n
  ne : a ≠ b
  per : R.Perm ((a, b) :: p)
theorem Cx.cnt (x : Cx n p R a b h) (S : Int → Bool) : cnt R S = cnt p S + iv (S a && S b) 1 := by
  rw [cnt_perm x.per, cnt_cons]
  show iv (S a && S b) 1 + _ = _
  omega
theorem Cx.length (x : Cx n p R a b h) : R.length = p.length + 1 := by rw [x.per.length_eq]; rfl
structure Cond (n : Nat) (R : List Rd) (a b : Int) (h r : List Int) : Prop where
  len : r.length = n
  sum : r.sum = R.length
  cut : ∀ U : Int → Bool, U a = U b → Bet.cnt R U + pos (Sm h U) ≤ Sm r U
theorem BT.cond {r : List Int} (q : BT n R h r) : Cond n R a b h r := ⟨q.len, q.sum, fun U _ => q.cut U⟩
def shift (a b : Int) (r : List Int) (t : Int) : List Int := inc (inc r a t) b (-t)
def lowC (p : List Rd) (a : Int) (h r : List Int) (S : Int → Bool) : Int := Bet.cnt p S + pos (Sm h S) - (Sm r S - at_ r a)
def hiC (p : List Rd) (a : Int) (h r : List Int) (T : Int → Bool) : Int := Sm r T + at_ r a - Bet.cnt p T - pos (Sm h T)
theorem shift_len (a b : Int) (r : List Int) (t : Int) : (shift a b r t).length = r.length := by unfold shift; rw [inc_len, inc_len]
theorem Sm_shift (x : Cx n p R a b h) {r : List Int} (hl : r.length = n) (t : Int) (S : Int → Bool) : Sm (shift a b r t) S = Sm r S + iv (S a) t - iv (S b) t := by
  unfold shift
  have l1 : a < r.length := by rw [hl]; exact x.ha.2
  have l2 : b < r.length := by rw [hl]; exact x.hb.2
  rw [Sm_inc S x.hb.1 (by rw [inc_len]; exact l2), Sm_inc S x.ha.1 l1]
  unfold iv
  split <;> split <;> omega
theorem at_shift (x : Cx n p R a b h) {r : List Int} (hl : r.length = n) (t : Int) : at_ (shift a b r t) a = at_ r a + t := by
  have l1 : a < r.length := by rw [hl]; exact x.ha.2
  rw [← Sm_one x.ha.1 (by rw [shift_len]; exact l1), Sm_shift x hl, Sm_one x.ha.1 l1]
  have e1 : decide (a = a) = true := decide_eq_true rfl
  have e2 : decide (b = a) = false := decide_eq_false fun z => x.ne z.symm
  show at_ r a + iv (decide (a = a)) t - iv (decide (b = a)) t = _
  rw [e1, e2]
  show at_ r a + t - 0 = _
  omega
def IsLo (p : List Rd) (a b : Int) (h r : List Int) (lo : Int) : Prop := (∃ S : Int → Bool, S a = true ∧ S b = false ∧ lowC p a h r S = lo) ∧ ∀ S : Int → Bool, S a = true → S b = false → lowC p a h r S ≤ lo
def IsHi (p : List Rd) (a b : Int) (h r : List Int) (hi : Int) : Prop := (∃ S : Int → Bool, S a = false ∧ S b = true ∧ hiC p a h r S = hi) ∧ ∀ S : Int → Bool, S a = false → S b = true → hi ≤ hiC p a h r S
theorem lo_le_hi (x : Cx n p R a b h) {r : List Int} (c : Cond n R a b h r) {S T : Int → Bool} (sa : S a = true) (sb : S b = false) (ta : T a = false) (tb : T b = true) : lowC p a h r S ≤ hiC p a h r T := by
  have u := c.cut (fun c => S c || T c) (by simp [sa, tb])
  have i := c.cut (fun c => S c && T c) (by simp [sb, ta])
  rw [x.cnt] at u i
  have su := cnt_super S T p
  have ad := Sm_add r S T
  have po := pos_two (Sm_add h S T).symm
  have e1 : iv ((S a || T a) && (S b || T b)) 1 = 1 := by rw [sa, tb]; simp [iv]
  have e2 : iv ((S a && T a) && (S b && T b)) 1 = 0 := by rw [ta]; simp [iv]
  rw [e1] at u
  rw [e2] at i
  unfold lowC hiC
  omega
theorem bounds (x : Cx n p R a b h) {r : List Int} (c : Cond n R a b h r) : ∃ lo hi, lo ≤ hi ∧ IsLo p a b h r lo ∧ IsHi p a b h r hi := by
  let S0 : Int → Bool := fun z => decide (z = a)
  let T0 : Int → Bool := fun z => decide (z = b)
  have s1 : S0 a = true := decide_eq_true rfl
  have s2 : S0 b = false := decide_eq_false fun z => x.ne z.symm
  have t1 : T0 a = false := decide_eq_false x.ne
  have t2 : T0 b = true := decide_eq_true rfl
  obtain ⟨lo, ⟨S, sa, sb, e⟩, hm⟩ := greatest (P := fun z => ∃ S : Int → Bool, S a = true ∧ S b = false ∧ lowC p a h r S = z) (B := hiC p a h r T0) (fun z ⟨S, sa, sb, e⟩ => by rw [← e]; exact lo_le_hi x c sa sb t1 t2) (hiC p a h r T0 - lowC p a h r S0).toNat (lowC p a h r S0) ⟨S0, s1, s2, rfl⟩ (by omega)
  obtain ⟨nh, ⟨T, ta, tb, e'⟩, hm'⟩ := greatest (P := fun z => ∃ S : Int → Bool, S a = false ∧ S b = true ∧ - hiC p a h r S = z) (B := - lowC p a h r S0) (fun z ⟨S, sa, sb, e⟩ => by have := lo_le_hi x c s1 s2 sa sb; omega) (- lowC p a h r S0 + hiC p a h r T0).toNat (- hiC p a h r T0) ⟨T0, t1, t2, rfl⟩ (by omega)
  refine ⟨lo, -nh, ?_, ⟨⟨S, sa, sb, e⟩, fun S' a1 b1 => hm _ ⟨S', a1, b1, rfl⟩⟩, ⟨T, ta, tb, by omega⟩, fun T' a1 b1 => ?_⟩
  · have := lo_le_hi x c sa sb ta tb
    omega
  · have := hm' _ ⟨T', a1, b1, rfl⟩
    omega
theorem lowC_shift (x : Cx n p R a b h) {r : List Int} (hl : r.length = n) (t : Int) {S : Int → Bool} (sa : S a = true) (sb : S b = false) : lowC p a h (shift a b r t) S = lowC p a h r S := by
  unfold lowC
  rw [Sm_shift x hl, at_shift x hl, sa, sb]
  unfold iv
  simp
  omega
theorem hiC_shift (x : Cx n p R a b h) {r : List Int} (hl : r.length = n) (t : Int) {S : Int → Bool} (sa : S a = false) (sb : S b = true) : hiC p a h (shift a b r t) S = hiC p a h r S := by
  unfold hiC
  rw [Sm_shift x hl, at_shift x hl, sa, sb]
  unfold iv
  simp
  omega
theorem IsLo.shift (x : Cx n p R a b h) {r : List Int} (hl : r.length = n) (t : Int) {lo : Int} (q : IsLo p a b h r lo) : IsLo p a b h (shift a b r t) lo := by
  obtain ⟨⟨S, sa, sb, e⟩, m⟩ := q
  exact ⟨⟨S, sa, sb, by rw [lowC_shift x hl t sa sb]; exact e⟩, fun S sa sb => by rw [lowC_shift x hl t sa sb]; exact m S sa sb⟩
theorem IsHi.shift (x : Cx n p R a b h) {r : List Int} (hl : r.length = n) (t : Int) {lo : Int} (q : IsHi p a b h r lo) : IsHi p a b h (shift a b r t) lo := by
  obtain ⟨⟨S, sa, sb, e⟩, m⟩ := q
  exact ⟨⟨S, sa, sb, by rw [hiC_shift x hl t sa sb]; exact e⟩, fun S sa sb => by rw [hiC_shift x hl t sa sb]; exact m S sa sb⟩
theorem sum_shift (x : Cx n p R a b h) {r : List Int} (hl : r.length = n) (t : Int) : (shift a b r t).sum = r.sum := by
  rw [← Sm_true, Sm_shift x hl, Sm_true]
  omega
theorem shift_bt (x : Cx n p R a b h) {r : List Int} (c : Cond n R a b h r) {lo hi : Int} (l : IsLo p a b h r lo) (g : IsHi p a b h r hi) (t : Int) : BT n R h (shift a b r t) ↔ lo ≤ at_ r a + t ∧ at_ r a + t ≤ hi := by
  constructor
  · intro q
    obtain ⟨⟨S, sa, sb, e⟩, _⟩ := l
    obtain ⟨⟨T, ta, tb, e'⟩, _⟩ := g
    have c1 := q.cut S
    have c2 := q.cut T
    rw [x.cnt, Sm_shift x c.len] at c1 c2
    rw [sa, sb] at c1
    rw [ta, tb] at c2
    unfold lowC at e
    unfold hiC at e'
    simp [iv] at c1 c2
    omega
  · rintro ⟨h1, h2⟩
    refine ⟨by rw [shift_len]; exact c.len, by rw [sum_shift x c.len]; exact c.sum, fun S => ?_⟩
    rw [Sm_shift x c.len]
    cases sa : S a <;> cases sb : S b
    · have := c.cut S (by rw [sa, sb])
      simp [iv]
      exact this
    · have := g.2 S sa sb
      rw [x.cnt, sa, sb]
      unfold hiC at this
      simp [iv]
      omega
    · have := l.2 S sa sb
      rw [x.cnt, sa, sb]
      unfold lowC at this
      simp [iv]
      omega
    · have := c.cut S (by rw [sa, sb])
      simp [iv]
      exact this
theorem shift_bp (x : Cx n p R a b h) {r : List Int} (c : Cond n R a b h r) {lo hi : Int} (l : IsLo p a b h r lo) (g : IsHi p a b h r hi) (t : Int) : BT n p h (shift a b (inc r b (-1)) t) ↔ lo ≤ at_ r a + t ∧ at_ r a + t ≤ hi - 1 := by
  have lb : b < r.length := by rw [c.len]; exact x.hb.2
  have hl : (inc r b (-1)).length = n := by rw [inc_len]; exact c.len
  have S1 : ∀ S, Sm (shift a b (inc r b (-1)) t) S = Sm r S + iv (S b) (-1) + iv (S a) t - iv (S b) t := fun S => by
    rw [Sm_shift x hl, Sm_inc S x.hb.1 lb]
  constructor
  · intro q
    obtain ⟨⟨S, sa, sb, e⟩, _⟩ := l
    obtain ⟨⟨T, ta, tb, e'⟩, _⟩ := g
    have c1 := q.cut S
    have c2 := q.cut T
    rw [S1] at c1 c2
    rw [sa, sb] at c1
    rw [ta, tb] at c2
    unfold lowC at e
    unfold hiC at e'
    simp [iv] at c1 c2
    omega
  · rintro ⟨h1, h2⟩
    refine ⟨by rw [shift_len]; exact hl, by rw [sum_shift x hl, sum_inc x.hb.1 lb, c.sum, x.length]; omega, fun S => ?_⟩
    rw [S1]
    cases sa : S a <;> cases sb : S b
    · have := c.cut S (by rw [sa, sb])
      rw [x.cnt, sa, sb] at this
      simp [iv] at this ⊢
      exact this
    · have := g.2 S sa sb
      unfold hiC at this
      simp [iv]
      omega
    · have := l.2 S sa sb
      unfold lowC at this
      simp [iv]
      omega
    · have := c.cut S (by rw [sa, sb])
      rw [x.cnt, sa, sb] at this
      simp [iv] at this ⊢
      omega
end
end Bet

set_option Elab.async false
set_option linter.all false
set_option maxRecDepth 100000
/-! K64C: rows joined at a road, the frame with it shut; straight rows as lists. -/
namespace Bet
/-- the row r with the numbers at low and high put together, less d -/
def J (low high : Int) (r : List Int) (d : Int) : List Int := (r.set low.toNat (at_ r low + at_ r high - d)).eraseIdx high.toNat
def nm (low high c : Int) : Int := if c = high then low else c - (if c > high then 1 else 0)
theorem smO_shift (S : Int → Bool) : ∀ (t : List Int) (k : Int), smO S k t = smO (fun c => S (c - 1)) (k + 1) t
  | [], _ => rfl
  | x :: t, k => by
    rw [smO, smO, smO_shift S t (k + 1)]
    have e : k + 1 - 1 = k := by omega
    rw [e]
theorem smO_erase (S : Int → Bool) : ∀ (r : List Int) (k : Int) (i : Nat), i < r.length → smO S k (r.eraseIdx i) = smO (fun c => decide (c ≠ k + i) && S (if c > k + i then c - 1 else c)) k r
  | [], _, _, h => by simp at h
  | x :: t, k, 0, _ => by
    rw [List.eraseIdx_cons_zero, smO, smO_shift S t k, if_neg (by simp)]
    have e : smO (fun c => S (c - 1)) (k + 1) t = smO (fun c => decide (c ≠ k + ((0 : Nat) : Int)) && S (if c > k + ((0 : Nat) : Int) then c - 1 else c)) (k + 1) t := smO_congr fun c h1 _ => by
      have a1 : decide (c ≠ k + ((0 : Nat) : Int)) = true := decide_eq_true (by omega)
      rw [a1, Bool.true_and, if_pos (by omega)]
    rw [e]
    omega
  | x :: t, k, i + 1, h => by
    have h' : i < t.length := by rw [List.length_cons] at h; omega
    rw [List.eraseIdx_cons_succ, smO, smO, smO_erase S t (k + 1) i h']
    have e : k + 1 + (i : Int) = k + ((i + 1 : Nat) : Int) := by omega
    have a1 : decide (k ≠ k + ((i + 1 : Nat) : Int)) = true := decide_eq_true (by omega)
    have a2 : ¬ k > k + ((i + 1 : Nat) : Int) := by omega
    rw [e, a1, if_neg a2, Bool.true_and]
section
variable {n : Nat} {low high : Int}
theorem Sm_J {r : List Int} (h0 : 0 ≤ low) (hl : low < high) (hh : high < r.length) (d : Int) (S : Int → Bool) : Sm (J low high r d) S = Sm r (fun c => S (nm low high c)) - iv (S low) d := by
  let T : Int → Bool := fun c => decide (c ≠ high) && S (if c > high then c - 1 else c)
  have e1 : Sm (J low high r d) S = Sm (r.set low.toNat (at_ r low + at_ r high - d)) T := by
    have z := smO_erase S (r.set low.toNat (at_ r low + at_ r high - d)) 0 high.toNat (by rw [List.length_set]; omega)
    have e : (0 : Int) + (high.toNat : Int) = high := by omega
    rw [e] at z
    exact z
  have e2 : Sm (r.set low.toNat (at_ r low + at_ r high - d)) T = Sm r T + iv (S low) (at_ r high - d) := by
    have z := Sm_inc (r := r) (c := low) (d := at_ r high - d) T h0 (by omega)
    unfold inc at z
    rw [show at_ r low + (at_ r high - d) = at_ r low + at_ r high - d by omega] at z
    rw [z]
    have : T low = S low := by
      show (decide (low ≠ high) && S (if low > high then low - 1 else low)) = S low
      rw [decide_eq_true (by omega : low ≠ high), if_neg (by omega), Bool.true_and]
    rw [this]
  have e3 : Sm r (fun c => S (nm low high c)) = Sm r T + iv (S low) (at_ r high) := by
    have ad := Sm_add r T (fun c => decide (c = high) && S low)
    have o : Sm r (fun c => T c || (decide (c = high) && S low)) = Sm r (fun c => S (nm low high c)) := Sm_congr fun c _ _ => by
      show (decide (c ≠ high) && S (if c > high then c - 1 else c) || (decide (c = high) && S low)) = S (nm low high c)
      unfold nm
      by_cases q : c = high
      · simp [q]
      · simp only [q, ne_eq, not_false_eq_true, decide_true, Bool.true_and, decide_false, Bool.false_and, Bool.or_false, if_false]
        split
        · rfl
        · rw [Int.sub_zero]
    have i : Sm r (fun c => T c && (decide (c = high) && S low)) = 0 := by
      rw [← Sm_false r]
      refine Sm_congr fun c _ _ => ?_
      show ((decide (c ≠ high) && S (if c > high then c - 1 else c)) && (decide (c = high) && S low)) = false
      by_cases q : c = high <;> simp [q]
    have w : Sm r (fun c => decide (c = high) && S low) = iv (S low) (at_ r high) := by
      cases q : S low
      · simp only [Bool.and_false]
        rw [Sm_false]
        rfl
      · simp only [Bool.and_true]
        rw [Sm_one (by omega) hh]
        rfl
    rw [o, i, w] at ad
    omega
  rw [e1, e2, e3]
  unfold iv
  split <;> omega
theorem J_len {r : List Int} (hh : 0 ≤ high ∧ high < r.length) (d : Int) : (J low high r d).length = r.length - 1 := by
  unfold J
  rw [List.length_eraseIdx, List.length_set, if_pos (by omega)]
def nm2 (low high : Int) (q : Rd) : Rd := (nm low high q.1, nm low high q.2)
theorem cnt_nm (low high : Int) (S : Int → Bool) : ∀ p : List Rd, cnt (p.map (nm2 low high)) S = cnt p (fun c => S (nm low high c))
  | [] => rfl
  | q :: p => by rw [List.map_cons, cnt_cons, cnt_cons, cnt_nm low high S p]; rfl
theorem nm_low (h : low < high) : nm low high low = low := by unfold nm; rw [if_neg (by omega), if_neg (by omega)]; omega
theorem nm_high : nm low high high = low := by unfold nm; rw [if_pos rfl]
/-- what is alike at low and high comes from the shut frame -/
theorem back {U : Int → Bool} (hl : low < high) (e : U low = U high) : ∃ S : Int → Bool, (fun c => S (nm low high c)) = U := by
  refine ⟨fun c => U (if c ≥ high then c + 1 else c), ?_⟩
  funext c
  show U (if nm low high c ≥ high then nm low high c + 1 else nm low high c) = U c
  unfold nm
  by_cases q : c = high
  · rw [if_pos q, if_neg (by omega), q]
    exact e
  · rw [if_neg q]
    by_cases g : c > high
    · rw [if_pos g, if_pos (by omega)]
      congr 1
      omega
    · rw [if_neg g, Int.sub_zero, if_neg (by omega)]
end
section
variable {n : Nat} {p R : List Rd} {a b : Int} {h : List Int} {low high : Int}
structure Lh (a b low high : Int) : Prop where
  lt : low < high
  or : (a = low ∧ b = high) ∨ (a = high ∧ b = low)
theorem Lh.eqU (l : Lh a b low high) (U : Int → Bool) : U a = U b ↔ U low = U high := by
  rcases l.or with ⟨rfl, rfl⟩ | ⟨rfl, rfl⟩
  · exact Iff.rfl
  · exact ⟨Eq.symm, Eq.symm⟩
theorem Lh.low0 (l : Lh a b low high) (x : Cx n p R a b h) : 0 ≤ low ∧ high < n := by
  rcases l.or with ⟨rfl, rfl⟩ | ⟨rfl, rfl⟩
  · exact ⟨x.ha.1, x.hb.2⟩
  · exact ⟨x.hb.1, x.ha.2⟩
theorem Lh.nmab (l : Lh a b low high) : nm low high a = low ∧ nm low high b = low := by
  rcases l.or with ⟨rfl, rfl⟩ | ⟨rfl, rfl⟩
  · exact ⟨nm_low l.lt, nm_high⟩
  · exact ⟨nm_high, nm_low l.lt⟩
theorem sum_J (l : Lh a b low high) (x : Cx n p R a b h) {r : List Int} (hl : r.length = n) (d : Int) : (J low high r d).sum = r.sum - d := by
  have hz := l.low0 x
  rw [← Sm_true, Sm_J hz.1 l.lt (by rw [hl]; exact hz.2), Sm_true]
  rfl
theorem cond_iff (l : Lh a b low high) (x : Cx n p R a b h) (hh : h.length = n) {r : List Int} (hl : r.length = n) : Cond n R a b h r ↔ BT (n - 1) (p.map (nm2 low high)) (J low high h 0) (J low high r 1) := by
  have hz := l.low0 x
  have z1 : ∀ S, Sm (J low high h 0) S = Sm h (fun c => S (nm low high c)) := fun S => by
    rw [Sm_J hz.1 l.lt (by rw [hh]; exact hz.2)]
    unfold iv
    split <;> omega
  have z2 : ∀ S, Sm (J low high r 1) S = Sm r (fun c => S (nm low high c)) - iv (S low) 1 := fun S => Sm_J hz.1 l.lt (by rw [hl]; exact hz.2) 1 S
  have z3 : ∀ S : Int → Bool, cnt R (fun c => S (nm low high c)) = cnt p (fun c => S (nm low high c)) + iv (S low) 1 := fun S => by
    rw [x.cnt, l.nmab.1, l.nmab.2, Bool.and_self]
  constructor
  · intro c
    refine ⟨by rw [J_len ⟨by have := l.lt; omega, by rw [hl]; exact hz.2⟩, hl], by rw [sum_J l x hl, c.sum, x.length, List.length_map]; omega, fun S => ?_⟩
    have q := c.cut (fun c => S (nm low high c)) (by show S (nm low high a) = S (nm low high b); rw [l.nmab.1, l.nmab.2])
    rw [z3] at q
    rw [cnt_nm, z1, z2]
    omega
  · intro c
    refine ⟨hl, ?_, fun U e => ?_⟩
    · have := c.sum
      rw [sum_J l x hl, List.length_map] at this
      rw [x.length]
      omega
    · obtain ⟨S, rfl⟩ := back l.lt ((l.eqU U).mp e)
      have q := c.cut S
      rw [cnt_nm, z1, z2] at q
      rw [z3]
      omega
theorem J_uniq (l : Lh a b low high) (x : Cx n p R a b h) {r r' : List Int} (hl : r.length = n) (hl' : r'.length = n) {d : Int} (e : J low high r d = J low high r' d) (ea : at_ r a = at_ r' a) : r = r' := by
  have hz := l.low0 x
  have both : ∀ U : Int → Bool, U a = U b → Sm r U = Sm r' U := fun U hU => by
    obtain ⟨S, rfl⟩ := back l.lt ((l.eqU U).mp hU)
    have e1 := Sm_J (r := r) hz.1 l.lt (by rw [hl]; exact hz.2) d S
    have e2 := Sm_J (r := r') hz.1 l.lt (by rw [hl']; exact hz.2) d S
    rw [e] at e1
    omega
  have one : Sm r (fun c => decide (c = a)) = Sm r' (fun c => decide (c = a)) := by
    rw [Sm_one x.ha.1 (by rw [hl]; exact x.ha.2), Sm_one x.ha.1 (by rw [hl']; exact x.ha.2), ea]
  have nba : decide (b = a) = false := decide_eq_false fun z => x.ne z.symm
  have aa : decide (a = a) = true := decide_eq_true rfl
  refine Sm_ext (by rw [hl, hl']) fun S => ?_
  cases sa : S a <;> cases sb : S b
  · exact both S (by rw [sa, sb])
  · have u := both (fun c => S c || decide (c = a)) (by show (S a || decide (a = a)) = (S b || decide (b = a)); rw [sa, sb, aa]; rfl)
    have i : ∀ z : List Int, Sm z (fun c => S c && decide (c = a)) = 0 := fun z => by
      rw [← Sm_false z]
      refine Sm_congr fun c _ _ => ?_
      show (S c && decide (c = a)) = false
      by_cases q : c = a
      · rw [q, sa]; rfl
      · rw [decide_eq_false q, Bool.and_false]
    have a1 := Sm_add r S fun c => decide (c = a)
    have a2 := Sm_add r' S fun c => decide (c = a)
    rw [i] at a1 a2
    omega
  · have u := both (fun c => S c && !decide (c = a)) (by show (S a && !decide (a = a)) = (S b && !decide (b = a)); rw [sa, sb, aa]; rfl)
    have sp : ∀ z : List Int, Sm z S = Sm z (fun c => S c && !decide (c = a)) + Sm z (fun c => decide (c = a)) := fun z => by
      have ad := Sm_add z (fun c => S c && !decide (c = a)) fun c => decide (c = a)
      have e1 : Sm z (fun c => (S c && !decide (c = a)) || decide (c = a)) = Sm z S := Sm_congr fun c _ _ => by
        show ((S c && !decide (c = a)) || decide (c = a)) = S c
        by_cases q : c = a
        · rw [q, sa]; simp
        · simp [q]
      have e2 : Sm z (fun c => (S c && !decide (c = a)) && decide (c = a)) = 0 := by
        rw [← Sm_false z]
        refine Sm_congr fun c _ _ => ?_
        show ((S c && !decide (c = a)) && decide (c = a)) = false
        by_cases q : c = a <;> simp [q]
      rw [e1, e2] at ad
      omega
    rw [sp r, sp r', u, one]
  · exact both S (by rw [sa, sb])
theorem J_shift (l : Lh a b low high) (x : Cx n p R a b h) {r : List Int} (hl : r.length = n) (t d : Int) : J low high (shift a b r t) d = J low high r d := by
  have hz := l.low0 x
  have h2 : high < r.length := by rw [hl]; exact hz.2
  have h0 : 0 ≤ high := by have := l.lt; omega
  refine Sm_ext (by rw [J_len ⟨h0, by rw [shift_len]; exact h2⟩, J_len ⟨h0, h2⟩, shift_len]) fun S => ?_
  rw [Sm_J hz.1 l.lt (by rw [shift_len]; exact h2), Sm_J hz.1 l.lt h2, Sm_shift x hl, l.nmab.1, l.nmab.2]
  omega
theorem J_inc (l : Lh a b low high) (x : Cx n p R a b h) {r : List Int} (hl : r.length = n) (d e : Int) : J low high (inc r b e) (d + e) = J low high r d := by
  have hz := l.low0 x
  have h2 : high < r.length := by rw [hl]; exact hz.2
  have h0 : 0 ≤ high := by have := l.lt; omega
  refine Sm_ext (by rw [J_len ⟨h0, by rw [inc_len]; exact h2⟩, J_len ⟨h0, h2⟩, inc_len]) fun S => ?_
  rw [Sm_J hz.1 l.lt (by rw [inc_len]; exact h2), Sm_J hz.1 l.lt h2, Sm_inc _ x.hb.1 (by rw [hl]; exact x.hb.2), l.nmab.2]
  unfold iv
  split <;> omega
theorem at_inc (x : Cx n p R a b h) {r : List Int} (hl : r.length = n) (e : Int) : at_ (inc r b e) a = at_ r a := by
  have la : a < r.length := by rw [hl]; exact x.ha.2
  rw [← Sm_one x.ha.1 (by rw [inc_len]; exact la), Sm_inc _ x.hb.1 (by rw [hl]; exact x.hb.2), Sm_one x.ha.1 la, decide_eq_false fun z => x.ne z.symm]
  unfold iv
  simp
theorem J_lift (l : Lh a b low high) (x : Cx n p R a b h) {κ : List Int} (hk : κ.length = n - 1) : ∃ r : List Int, r.length = n ∧ J low high r 1 = κ := by
  have hz := l.low0 x
  have lt := l.lt
  let r := κ.take high.toNat ++ 1 :: κ.drop high.toNat
  have tl : (κ.take high.toNat).length = high.toNat := by rw [List.length_take]; omega
  have len : r.length = n := by
    show (κ.take high.toNat ++ 1 :: κ.drop high.toNat).length = n
    rw [List.length_append, List.length_cons, tl, List.length_drop]
    omega
  refine ⟨r, len, ?_⟩
  have e1 : at_ r high = 1 := by
    show (κ.take high.toNat ++ 1 :: κ.drop high.toNat).getD high.toNat 0 = 1
    rw [List.getD_eq_getElem?_getD, List.getElem?_append_right (by omega), tl, Nat.sub_self]
    rfl
  have e2 : r.set low.toNat (at_ r low + at_ r high - 1) = r := by
    rw [e1, show at_ r low + 1 - 1 = at_ r low by omega]
    unfold at_
    rw [List.getD_eq_getElem?_getD, List.getElem?_eq_getElem (by omega)]
    exact List.set_getElem_self _
  unfold J
  rw [e2]
  show (κ.take high.toNat ++ 1 :: κ.drop high.toNat).eraseIdx high.toNat = κ
  rw [List.eraseIdx_append_of_length_le (by omega), tl, Nat.sub_self, List.eraseIdx_cons_zero, List.take_append_drop]
/-- what stands over the key κ -/
theorem over_key (l : Lh a b low high) (x : Cx n p R a b h) (hh : h.length = n) {κ : List Int} (hk : BT (n - 1) (p.map (nm2 low high)) (J low high h 0) κ) :
    ∃ lo hi, lo ≤ hi ∧ (∀ r, r.length = n → J low high r 1 = κ → (BT n R h r ↔ lo ≤ at_ r a ∧ at_ r a ≤ hi) ∧ IsLo p a b h r lo ∧ IsHi p a b h r hi) ∧
      (∀ r, r.length = n → J low high r 0 = κ → (BT n p h r ↔ lo ≤ at_ r a ∧ at_ r a ≤ hi - 1)) ∧
      (∀ y, ∃ r, r.length = n ∧ J low high r 1 = κ ∧ at_ r a = y) ∧ ∀ y, ∃ r, r.length = n ∧ J low high r 0 = κ ∧ at_ r a = y := by
  obtain ⟨r0, hl, e⟩ := J_lift l x hk.len
  have c : Cond n R a b h r0 := (cond_iff l x hh hl).mpr (by rw [e]; exact hk)
  obtain ⟨lo, hi, le, Lo, Hi⟩ := bounds x c
  have at1 : ∀ y, ∃ r, r.length = n ∧ J low high r 1 = κ ∧ at_ r a = y := fun y => ⟨shift a b r0 (y - at_ r0 a), by rw [shift_len, hl], by rw [J_shift l x hl, e], by rw [at_shift x hl]; omega⟩
  have hl' : (inc r0 b (-1)).length = n := by rw [inc_len, hl]
  have e' : J low high (inc r0 b (-1)) 0 = κ := by
    have := J_inc l x hl 1 (-1)
    rw [e] at this
    exact this
  have ea : at_ (inc r0 b (-1)) a = at_ r0 a := at_inc x hl (-1)
  refine ⟨lo, hi, le, fun r hr er => ?_, fun r hr er => ?_, at1, fun y => ⟨shift a b (inc r0 b (-1)) (y - at_ r0 a), by rw [shift_len, hl'], by rw [J_shift l x hl', e'], by rw [at_shift x hl', ea]; omega⟩⟩
  · have q : r = shift a b r0 (at_ r a - at_ r0 a) := J_uniq l x hr (by rw [shift_len, hl]) (d := 1) (by rw [er, J_shift l x hl, e]) (by rw [at_shift x hl]; omega)
    refine ⟨?_, by rw [q]; exact Lo.shift x hl _, by rw [q]; exact Hi.shift x hl _⟩
    have z := shift_bt x c Lo Hi (at_ r a - at_ r0 a)
    rw [← q, show at_ r0 a + (at_ r a - at_ r0 a) = at_ r a by omega] at z
    exact z
  · have q : r = shift a b (inc r0 b (-1)) (at_ r a - at_ r0 a) := J_uniq l x hr (by rw [shift_len, hl']) (d := 0) (by rw [er, J_shift l x hl', e']) (by rw [at_shift x hl', ea]; omega)
    have z := shift_bp x c Lo Hi (at_ r a - at_ r0 a)
    rw [← q, show at_ r0 a + (at_ r a - at_ r0 a) = at_ r a by omega] at z
    exact z
theorem bt_key (l : Lh a b low high) (x : Cx n p R a b h) (hh : h.length = n) {r : List Int} (q : BT n R h r) : BT (n - 1) (p.map (nm2 low high)) (J low high h 0) (J low high r 1) := (cond_iff l x hh q.len).mp q.cond
theorem bp_key (l : Lh a b low high) (x : Cx n p R a b h) (hh : h.length = n) {r : List Int} (q : BT n p h r) : BT (n - 1) (p.map (nm2 low high)) (J low high h 0) (J low high r 0) := by
  have lb : b < r.length := by rw [q.len]; exact x.hb.2
  have c : Cond n R a b h (inc r b 1) := ⟨by rw [inc_len, q.len], by rw [sum_inc x.hb.1 lb, q.sum, x.length]; omega, fun U e => by
    have := q.cut U
    rw [Sm_inc U x.hb.1 lb, x.cnt, e, Bool.and_self]
    omega⟩
  have := (cond_iff l x hh c.len).mp c
  have e := J_inc l x q.len 0 1
  rw [show (0 : Int) + 1 = 1 by omega] at e
  rw [e] at this
  exact this
end
end Bet

set_option Elab.async false
set_option linter.all false
set_option maxRecDepth 100000
/-! K64D: rows put together by their keys, as lists. -/
namespace Bet
open W2
/-! ### groups -/
abbrev GI := List Int × List Int
def gval (m : List GI) (k : List Int) : List Int := ((m.find? fun q => decide (q.1 = k)).map (·.2)).getD []
def gput (m : List GI) (k : List Int) (v : List Int) : List GI := if (m.any fun q => decide (q.1 = k)) = true then m.map (fun q => if q.1 = k then (q.1, v) else q) else m ++ [(k, v)]
theorem g_any {m : List GI} {k : List Int} : (m.any fun q => decide (q.1 = k)) = true ↔ k ∈ m.map (·.1) := by
  rw [List.any_eq_true, List.mem_map]
  exact ⟨fun ⟨q, h1, h2⟩ => ⟨q, h1, of_decide_eq_true h2⟩, fun ⟨q, h1, h2⟩ => ⟨q, h1, decide_eq_true h2⟩⟩
theorem gval_cons (q : GI) (m : List GI) (k : List Int) : gval (q :: m) k = if q.1 = k then q.2 else gval m k := by
  unfold gval
  rw [List.find?_cons]
  by_cases h : q.1 = k
  · rw [decide_eq_true h, if_pos h]; rfl
  · rw [decide_eq_false h, if_neg h]
theorem gval_none {k : List Int} : ∀ {m : List GI}, k ∉ m.map (·.1) → gval m k = []
  | [], _ => rfl
  | q :: m, h => by
    rw [List.map_cons, List.mem_cons, not_or] at h
    rw [gval_cons, if_neg (fun z => h.1 z.symm), gval_none h.2]
theorem gput_keys (m : List GI) (k v : List Int) : (gput m k v).map (·.1) = if k ∈ m.map (·.1) then m.map (·.1) else m.map (·.1) ++ [k] := by
  unfold gput
  by_cases h : k ∈ m.map (·.1)
  · rw [if_pos (g_any.mpr h), if_pos h, List.map_map]
    refine List.map_congr_left fun q _ => ?_
    show (if q.1 = k then (q.1, v) else q).1 = q.1
    split <;> rfl
  · rw [if_neg (fun z => h (g_any.mp z)), if_neg h, List.map_append]
    rfl
theorem gval_put (m : List GI) (k v k' : List Int) : gval (gput m k v) k' = if k' = k then v else gval m k' := by
  unfold gput
  by_cases h : k ∈ m.map (·.1)
  · rw [if_pos (g_any.mpr h)]
    revert h
    induction m with
    | nil => intro h; simp at h
    | cons q m ih =>
      intro h
      rw [List.map_cons, gval_cons, gval_cons]
      by_cases e : q.1 = k
      · rw [if_pos e]
        by_cases e' : k' = k
        · rw [if_pos e', if_pos (by rw [e, e'])]
        · rw [if_neg e', if_neg (by show ¬ q.1 = k'; rw [e]; exact fun z => e' z.symm), if_neg (by rw [e]; exact fun z => e' z.symm)]
          by_cases hm : k ∈ m.map (·.1)
          · rw [ih hm, if_neg e']
          · have : m.map (fun q => if q.1 = k then (q.1, v) else q) = m := by
              conv => rhs; rw [← List.map_id m]
              refine List.map_congr_left fun x hx => ?_
              rw [if_neg (fun z => hm (by rw [← z]; exact List.mem_map_of_mem (f := fun x : GI => x.1) hx))]
              rfl
            rw [this]
      · have hm : k ∈ m.map (·.1) := by
          rw [List.map_cons, List.mem_cons] at h
          rcases h with h | h
          · exact absurd h.symm e
          · exact h
        rw [if_neg e, ih hm]
        by_cases e2 : q.1 = k'
        · rw [if_pos e2, if_pos e2, if_neg (fun z => e (e2.trans z))]
        · rw [if_neg e2, if_neg e2]
  · rw [if_neg (fun z => h (g_any.mp z))]
    revert h
    induction m with
    | nil =>
      intro _
      show gval [(k, v)] k' = _
      rw [gval_cons]
      by_cases e : k' = k
      · rw [if_pos e, if_pos e.symm]
      · rw [if_neg e, if_neg fun z => e z.symm]
    | cons q m ih =>
      intro h
      rw [List.map_cons, List.mem_cons, not_or] at h
      rw [List.cons_append, gval_cons, gval_cons, ih h.2]
      by_cases e2 : q.1 = k'
      · rw [if_pos e2, if_pos e2, if_neg (fun z => h.1 (e2.trans z).symm)]
      · rw [if_neg e2, if_neg e2]
def addG (f : List Int → List Int) (g : List Int → Int) (m : List GI) (r : List Int) : List GI := gput m (f r) (gval m (f r) ++ [g r])
def group (f : List Int → List Int) (g : List Int → Int) (rows : List (List Int)) : List GI := rows.foldl (addG f g) []
def gxs (f : List Int → List Int) (g : List Int → Int) (rows : List (List Int)) (k : List Int) : List Int := (rows.filter fun r => decide (f r = k)).map g
section
variable {f : List Int → List Int} {g : List Int → Int}
theorem fold_g (k : List Int) : ∀ (rows : List (List Int)) (m : List GI), gval (rows.foldl (addG f g) m) k = gval m k ++ gxs f g rows k
  | [], m => by show gval m k = gval m k ++ []; rw [List.append_nil]
  | r :: rows, m => by
    rw [List.foldl_cons, fold_g k rows]
    unfold addG gxs
    rw [gval_put, List.filter_cons]
    by_cases e : f r = k
    · rw [if_pos e.symm, if_pos (decide_eq_true e), List.map_cons, e]
      simp
    · rw [if_neg (fun z => e z.symm), if_neg (by simp [e])]
theorem group_val (rows : List (List Int)) (k : List Int) : gval (group f g rows) k = gxs f g rows k := by
  unfold group
  rw [fold_g]
  rfl
theorem fold_keys : ∀ (rows : List (List Int)) (m : List GI), (m.map (·.1)).Nodup → ((rows.foldl (addG f g) m).map (·.1)).Nodup ∧ ∀ k, k ∈ (rows.foldl (addG f g) m).map (·.1) ↔ k ∈ m.map (·.1) ∨ ∃ r ∈ rows, f r = k
  | [], m, h => ⟨h, fun k => by simp⟩
  | r :: rows, m, h => by
    have e := gput_keys m (f r) (gval m (f r) ++ [g r])
    have hn : ((addG f g m r).map (·.1)).Nodup := by
      unfold addG
      rw [e]
      split
      · exact h
      · rename_i hk
        rw [List.nodup_append]
        refine ⟨h, List.nodup_cons.mpr ⟨by simp, List.nodup_nil⟩, fun a ha b hb z => hk ?_⟩
        rw [List.mem_singleton] at hb
        rw [← hb, ← z]
        exact ha
    obtain ⟨h1, h2⟩ := fold_keys rows _ hn
    refine ⟨h1, fun k => (h2 k).trans ?_⟩
    have : k ∈ (addG f g m r).map (·.1) ↔ k ∈ m.map (·.1) ∨ f r = k := by
      unfold addG
      rw [e]
      split
      · rename_i hk
        exact ⟨.inl, fun z => z.elim id fun z => by rw [← z]; exact hk⟩
      · rw [List.mem_append, List.mem_singleton]
        exact ⟨fun z => z.imp id Eq.symm, fun z => z.imp id Eq.symm⟩
    rw [this]
    constructor
    · rintro ((z | z) | ⟨q, hq, z⟩)
      · exact .inl z
      · exact .inr ⟨r, List.mem_cons_self, z⟩
      · exact .inr ⟨q, List.mem_cons_of_mem _ hq, z⟩
    · rintro (z | ⟨q, hq, z⟩)
      · exact .inl (.inl z)
      · rcases List.mem_cons.mp hq with rfl | hq
        · exact .inl (.inr z)
        · exact .inr ⟨q, hq, z⟩
theorem group_nodup (rows : List (List Int)) : ((group f g rows).map (·.1)).Nodup := (fold_keys rows [] List.nodup_nil).1
theorem mem_group {rows : List (List Int)} {k : List Int} : k ∈ (group f g rows).map (·.1) ↔ ∃ r ∈ rows, f r = k := ((fold_keys rows [] List.nodup_nil).2 k).trans ⟨fun z => z.elim (fun z => by simp at z) id, .inr⟩
end
/-! ### ints one behind the other -/
def irange (lo : Int) (k : Nat) : List Int := (List.range k).map fun i : Nat => lo + (i : Int)
theorem irange_ss (lo : Int) (k : Nat) : SS (irange lo k) := by
  unfold irange SS
  rw [List.pairwise_map]
  exact List.pairwise_lt_range.imp fun h => by omega
theorem mem_irange {lo : Int} {k : Nat} {x : Int} : x ∈ irange lo k ↔ lo ≤ x ∧ x < lo + k := by
  unfold irange
  rw [List.mem_map]
  constructor
  · rintro ⟨i, hi, rfl⟩
    have := List.mem_range.mp hi
    omega
  · intro h
    exact ⟨(x - lo).toNat, List.mem_range.mpr (by omega), by omega⟩
theorem sort_irange {xs : List Int} {lo : Int} {k : Nat} (hn : xs.Nodup) (h : ∀ x, x ∈ xs ↔ lo ≤ x ∧ x < lo + k) : W2.sortI xs = irange lo k := by
  refine ss_unique (W2.sortI_ss hn) (irange_ss lo k) ((W2.sortI_perm xs).trans ?_)
  exact (List.perm_ext_iff_of_nodup hn (irange_ss lo k).nodup).mpr fun x => (h x).trans mem_irange.symm
theorem one_hot {z : List Int} : ∀ {K : List (List Int)}, K.Nodup → z ∈ K → (K.map fun k => if z = k then 1 else 0).sum = 1
  | [], _, h => by simp at h
  | k :: K, hn, h => by
    rw [List.map_cons, List.sum_cons]
    obtain ⟨h1, h2⟩ := List.nodup_cons.mp hn
    by_cases e : z = k
    · have zero : ∀ {L : List (List Int)}, z ∉ L → (L.map fun k => if z = k then 1 else 0).sum = 0 := by
        intro L
        induction L with
        | nil => intro _; rfl
        | cons y L ih =>
          intro hy
          rw [List.mem_cons, not_or] at hy
          rw [List.map_cons, List.sum_cons, if_neg hy.1, ih hy.2]
      rw [if_pos e, zero (by rw [e]; exact h1)]
    · rw [if_neg e, one_hot h2 ((List.mem_cons.mp h).resolve_left e)]
theorem count_keys {f : List Int → List Int} {K : List (List Int)} (hn : K.Nodup) : ∀ {R : List (List Int)}, (∀ r ∈ R, f r ∈ K) → R.length = (K.map fun k => (R.filter fun r => decide (f r = k)).length).sum
  | [], _ => by
    have : ∀ L : List (List Int), (L.map fun k => (([] : List (List Int)).filter fun r => decide (f r = k)).length).sum = 0 := by
      intro L
      induction L with
      | nil => rfl
      | cons y L ih => rw [List.map_cons, List.sum_cons, ih]; rfl
    rw [this]; rfl
  | r :: R, h => by
    have ih := count_keys hn (R := R) fun x hx => h x (List.mem_cons_of_mem _ hx)
    have o := one_hot hn (h r List.mem_cons_self)
    have e : ∀ L : List (List Int), (L.map fun k => ((r :: R).filter fun r => decide (f r = k)).length).sum = (L.map fun k => (R.filter fun r => decide (f r = k)).length).sum + (L.map fun k => if f r = k then 1 else 0).sum := by
      intro L
      induction L with
      | nil => rfl
      | cons y L ihL =>
        rw [List.map_cons, List.sum_cons, List.map_cons, List.sum_cons, List.map_cons, List.sum_cons, ihL, List.filter_cons]
        by_cases q : f r = y
        · rw [if_pos (decide_eq_true q), if_pos q, List.length_cons]; omega
        · rw [if_neg (by simp [q]), if_neg q]; omega
    rw [List.length_cons, e, ← ih, o]
/-! ### straight rows -/
section
variable {n : Nat} {p R : List Rd} {a b : Int} {h : List Int} {low high : Int}
structure Lists (n : Nat) (p R : List Rd) (h : List Int) (low high : Int) (rows out below : List (List Int)) : Prop where
  rn : rows.Nodup
  rm : ∀ r, r ∈ rows ↔ BT n R h r
  on : out.Nodup
  om : ∀ r, r ∈ out ↔ BT n p h r
  bn : below.Nodup
  bm : ∀ k, k ∈ below ↔ BT (n - 1) (p.map (nm2 low high)) (J low high h 0) k
theorem xs_nodup (l : Lh a b low high) (x : Cx n p R a b h) {rows : List (List Int)} (hn : rows.Nodup) (hl : ∀ r ∈ rows, r.length = n) (d : Int) (k : List Int) : (gxs (fun r => J low high r d) (fun r => at_ r a) rows k).Nodup := by
  unfold gxs
  refine List.nodup_iff_pairwise_ne.mpr (List.pairwise_map.mpr ?_)
  refine List.Pairwise.imp_of_mem (fun {u v} hu hv ne e => ne ?_) (List.nodup_iff_pairwise_ne.mp (hn.filter _))
  obtain ⟨u1, u2⟩ := List.mem_filter.mp hu
  obtain ⟨v1, v2⟩ := List.mem_filter.mp hv
  exact J_uniq l x (hl u u1) (hl v v1) (d := d) ((of_decide_eq_true u2).trans (of_decide_eq_true v2).symm) e
theorem mem_gxs {f : List Int → List Int} {g : List Int → Int} {rows : List (List Int)} {k : List Int} {y : Int} : y ∈ gxs f g rows k ↔ ∃ r, r ∈ rows ∧ f r = k ∧ g r = y := by
  unfold gxs
  rw [List.mem_map]
  constructor
  · rintro ⟨r, h1, h2⟩
    obtain ⟨h3, h4⟩ := List.mem_filter.mp h1
    exact ⟨r, h3, of_decide_eq_true h4, h2⟩
  · rintro ⟨r, h1, h2, h3⟩
    exact ⟨r, List.mem_filter.mpr ⟨h1, decide_eq_true h2⟩, h3⟩
theorem straight (l : Lh a b low high) (x : Cx n p R a b h) (hh : h.length = n) {rows out below : List (List Int)} (L : Lists n p R h low high rows out below) :
    (∀ r ∈ rows, J low high r 1 ∈ below) ∧ (∀ r ∈ out, J low high r 0 ∈ below) ∧ rows.length = out.length + below.length ∧ (∀ k ∈ below, ∃ r ∈ rows, J low high r 1 = k) ∧
    ∀ k ∈ below, ∃ lo hi, lo ≤ hi ∧ W2.sortI (gxs (fun r => J low high r 1) (fun r => at_ r a) rows k) = irange lo (hi + 1 - lo).toNat ∧ W2.sortI (gxs (fun r => J low high r 0) (fun r => at_ r a) out k) = irange lo (hi - lo).toNat ∧
      ∀ r ∈ rows, J low high r 1 = k → IsLo p a b h r lo ∧ IsHi p a b h r hi := by
  have k1 : ∀ r ∈ rows, J low high r 1 ∈ below := fun r hr => (L.bm _).mpr (bt_key l x hh ((L.rm r).mp hr))
  have k0 : ∀ r ∈ out, J low high r 0 ∈ below := fun r hr => (L.bm _).mpr (bp_key l x hh ((L.om r).mp hr))
  have main : ∀ k ∈ below, ∃ lo hi, lo ≤ hi ∧ W2.sortI (gxs (fun r => J low high r 1) (fun r => at_ r a) rows k) = irange lo (hi + 1 - lo).toNat ∧ W2.sortI (gxs (fun r => J low high r 0) (fun r => at_ r a) out k) = irange lo (hi - lo).toNat ∧
      ∀ r ∈ rows, J low high r 1 = k → IsLo p a b h r lo ∧ IsHi p a b h r hi := fun k hk => by
    obtain ⟨lo, hi, le, o1, o0, e1, e0⟩ := over_key l x hh ((L.bm k).mp hk)
    refine ⟨lo, hi, le, sort_irange (xs_nodup l x L.rn (fun r hr => ((L.rm r).mp hr).len) 1 k) fun y => ?_, sort_irange (xs_nodup l x L.on (fun r hr => ((L.om r).mp hr).len) 0 k) fun y => ?_, fun r hr er => (o1 r ((L.rm r).mp hr).len er).2⟩
    · rw [mem_gxs]
      constructor
      · rintro ⟨r, h1, h2, rfl⟩
        have hr := (L.rm r).mp h1
        have := (o1 r hr.len h2).1.mp hr
        omega
      · intro hy
        obtain ⟨r, h1, h2, h3⟩ := e1 y
        exact ⟨r, (L.rm r).mpr ((o1 r h1 h2).1.mpr (by omega)), h2, h3⟩
    · rw [mem_gxs]
      constructor
      · rintro ⟨r, h1, h2, rfl⟩
        have hr := (L.om r).mp h1
        have := (o0 r hr.len h2).mp hr
        omega
      · intro hy
        obtain ⟨r, h1, h2, h3⟩ := e0 y
        exact ⟨r, (L.om r).mpr ((o0 r h1 h2).mpr (by omega)), h2, h3⟩
  refine ⟨k1, k0, ?_, fun k hk => ?_, main⟩
  · rw [count_keys L.bn k1, count_keys L.bn k0]
    have len : ∀ k ∈ below, (rows.filter fun r => decide (J low high r 1 = k)).length = (out.filter fun r => decide (J low high r 0 = k)).length + 1 := fun k hk => by
      obtain ⟨lo, hi, le, s1, s0, _⟩ := main k hk
      have l1 := (W2.sortI_perm (gxs (fun r => J low high r 1) (fun r => at_ r a) rows k)).length_eq
      have l0 := (W2.sortI_perm (gxs (fun r => J low high r 0) (fun r => at_ r a) out k)).length_eq
      rw [s1] at l1
      rw [s0] at l0
      have a1 : (gxs (fun r => J low high r 1) (fun r => at_ r a) rows k).length = (rows.filter fun r => decide (J low high r 1 = k)).length := List.length_map _
      have a0 : (gxs (fun r => J low high r 0) (fun r => at_ r a) out k).length = (out.filter fun r => decide (J low high r 0 = k)).length := List.length_map _
      have b : ∀ m : Nat, (irange lo m).length = m := fun m => by unfold irange; rw [List.length_map, List.length_range]
      rw [b, a1] at l1
      rw [b, a0] at l0
      omega
    have sums : ∀ K : List (List Int), (∀ k ∈ K, k ∈ below) → (K.map fun k => (rows.filter fun r => decide (J low high r 1 = k)).length).sum = (K.map fun k => (out.filter fun r => decide (J low high r 0 = k)).length).sum + K.length := by
      intro K
      induction K with
      | nil => intro _; rfl
      | cons k K ih =>
        intro hK
        rw [List.map_cons, List.sum_cons, List.map_cons, List.sum_cons, ih fun y hy => hK y (List.mem_cons_of_mem _ hy), len k (hK k List.mem_cons_self), List.length_cons]
        omega
    exact sums below fun _ z => z
  · obtain ⟨lo, hi, le, o1, o0, e1, e0⟩ := over_key l x hh ((L.bm k).mp hk)
    obtain ⟨r, h1, h2, h3⟩ := e1 lo
    exact ⟨r, (L.rm r).mpr ((o1 r h1 h2).1.mpr (by omega)), h2⟩
end
end Bet

set_option Elab.async false
set_option linter.all false
set_option maxRecDepth 100000
/-! K33A: rows of outs as lists; as many as free lots (told by heads). -/
namespace Out
open W2 Bet
def addK (ks : List (List Int)) (k : List Int) : List (List Int) := if k ∈ ks then ks else ks ++ [k]
def step1 (a b : Int) (late : List (List Int)) (row : List Int) : List (List Int) := addK (addK late (inc row a 1)) (inc row b 1)
def step (rows : List (List Int)) (p : Int × Int) : List (List Int) := rows.foldl (step1 p.1 p.2) []
def outsK (n : Nat) (roads : List (Int × Int)) : List (List Int) := roads.foldl step [List.replicate n 0]
def outsS (n : Nat) (roads : List (Int × Int)) : List (List Int) := (outsK n roads).mergeSort leL
theorem mem_addK {ks : List (List Int)} {k z : List Int} : z ∈ addK ks k ↔ z ∈ ks ∨ z = k := by
  unfold addK
  split
  · rename_i h
    exact ⟨.inl, fun q => q.elim id fun e => by rw [e]; exact h⟩
  · rw [List.mem_append, List.mem_singleton]
theorem addK_nodup {ks : List (List Int)} {k : List Int} (h : ks.Nodup) : (addK ks k).Nodup := by
  unfold addK
  split
  · exact h
  · rename_i hk
    rw [List.nodup_append]
    refine ⟨h, List.nodup_cons.mpr ⟨by simp, List.nodup_nil⟩, fun a ha b hb e => hk ?_⟩
    rw [List.mem_singleton] at hb
    rw [← hb, ← e]
    exact ha
theorem addK_len (ks : List (List Int)) (k : List Int) : (addK ks k).length ≤ ks.length + 1 := by
  unfold addK
  split
  · omega
  · rw [List.length_append]; exact Nat.le_refl _
theorem step1_all (a b : Int) : ∀ (rows late : List (List Int)), late.Nodup → (rows.foldl (step1 a b) late).Nodup ∧ (rows.foldl (step1 a b) late).length ≤ late.length + 2 * rows.length ∧ ∀ z, z ∈ rows.foldl (step1 a b) late ↔ z ∈ late ∨ ∃ r ∈ rows, z = inc r a 1 ∨ z = inc r b 1
  | [], late, h => ⟨h, Nat.le_refl _, fun z => by simp⟩
  | r :: rows, late, h => by
    obtain ⟨h1, h2, h3⟩ := step1_all a b rows (step1 a b late r) (addK_nodup (addK_nodup h))
    refine ⟨h1, ?_, fun z => (h3 z).trans ?_⟩
    · have e1 := addK_len (addK late (inc r a 1)) (inc r b 1)
      have e2 := addK_len late (inc r a 1)
      have e3 : (step1 a b late r).length = (addK (addK late (inc r a 1)) (inc r b 1)).length := rfl
      rw [List.length_cons]
      show (rows.foldl (step1 a b) (step1 a b late r)).length ≤ _
      omega
    · unfold step1
      rw [mem_addK, mem_addK]
      constructor
      · rintro (((z1 | z1) | z1) | ⟨q, hq, z1⟩)
        · exact .inl z1
        · exact .inr ⟨r, List.mem_cons_self, .inl z1⟩
        · exact .inr ⟨r, List.mem_cons_self, .inr z1⟩
        · exact .inr ⟨q, List.mem_cons_of_mem _ hq, z1⟩
      · rintro (z1 | ⟨q, hq, z1⟩)
        · exact .inl (.inl (.inl z1))
        · rcases List.mem_cons.mp hq with rfl | hq
          · rcases z1 with z1 | z1
            · exact .inl (.inl (.inr z1))
            · exact .inl (.inr z1)
          · exact .inr ⟨q, hq, z1⟩
theorem outsK_all (n : Nat) : ∀ (k : Nat) (p : List (Int × Int)), p.length = k → Good n p → (outsK n p).Nodup ∧ (outsK n p).length ≤ 2 ^ k ∧ ∀ r, r ∈ outsK n p ↔ Chr n p r
  | 0, p, hk, _ => by
    have : p = [] := List.eq_nil_of_length_eq_zero hk
    subst this
    refine ⟨List.nodup_cons.mpr ⟨by simp, List.nodup_nil⟩, Nat.le_refl _, fun r => ?_⟩
    show r ∈ [List.replicate n 0] ↔ _
    rw [List.mem_singleton]
    exact ⟨fun e => by rw [e]; exact chr_nil n, chr_zero⟩
  | k + 1, p, hk, hg => by
    have ne : p ≠ [] := fun z => by rw [z] at hk; cases hk
    obtain ⟨q, ab, rfl⟩ : ∃ q ab, p = q ++ [ab] := ⟨p.dropLast, p.getLast ne, (List.dropLast_concat_getLast ne).symm⟩
    have hq : q.length = k := by rw [List.length_append] at hk; simpa using hk
    have gq : Good n q := fun x hx => hg x (List.mem_append.mpr (.inl hx))
    have gab := hg ab (List.mem_append.mpr (.inr List.mem_cons_self))
    obtain ⟨h1, h2, h3⟩ := outsK_all n k q hq gq
    have e : outsK n (q ++ [ab]) = (outsK n q).foldl (step1 ab.1 ab.2) [] := by
      unfold outsK
      rw [List.foldl_append]
      rfl
    obtain ⟨s1, s2, s3⟩ := step1_all ab.1 ab.2 (outsK n q) [] List.nodup_nil
    rw [e]
    refine ⟨s1, ?_, fun r => (s3 r).trans ?_⟩
    · rw [Nat.pow_succ]
      have : ([] : List (List Int)).length = 0 := rfl
      omega
    · have cs := chr_step (n := n) (p := q) (a := ab.1) (b := ab.2) (r := r) gab.1 gab.2
      refine Iff.trans ?_ cs.symm
      constructor
      · rintro (z | ⟨r', hr', z⟩)
        · cases z
        · exact ⟨r', (h3 r').mp hr', z⟩
      · rintro ⟨r', hr', z⟩
        exact .inr ⟨r', (h3 r').mpr hr', z⟩
theorem mem_outsS {n : Nat} {p : List (Int × Int)} (hg : Good n p) {r : List Int} : r ∈ outsS n p ↔ Chr n p r := by
  unfold outsS
  rw [(List.mergeSort_perm _ _).mem_iff]
  exact (outsK_all n _ p rfl hg).2.2 r
theorem outsS_nodup {n : Nat} {p : List (Int × Int)} (hg : Good n p) : (outsS n p).Nodup := (List.mergeSort_perm _ _).nodup_iff.mpr (outsK_all n _ p rfl hg).1
/-! ### how many -/
theorem len_mem {l m : List (List Int)} (hl : l.Nodup) (hm : m.Nodup) (h : ∀ x, x ∈ l ↔ x ∈ m) : l.length = m.length :=
  Nat.le_antisymm (nodup_le hl fun x hx => (h x).mp hx) (nodup_le hm fun x hx => (h x).mpr hx)
theorem chr_perm {n : Nat} {p q : List Rd} {r : List Int} (h : Chr n p r) (e : p.Perm q) : Chr n q r := ⟨h.len, by rw [h.sum, e.length_eq], fun S => by rw [← cnt_perm e]; exact h.cut S⟩
theorem good_perm {n : Int} {p q : List (Int × Int)} (h : Good n p) (e : p.Perm q) : Good n q := fun x hx => h x (e.mem_iff.mpr hx)
theorem good_tail {n : Int} {e : Int × Int} {p : List (Int × Int)} (h : Good n (e :: p)) : Good n p := fun x hx => h x (List.mem_cons_of_mem _ hx)
/-- how many rows of outs -/
def cO (n : Nat) (p : List (Int × Int)) : Nat := (outsS n p).length
theorem cO_of {n : Nat} {p : List (Int × Int)} (hg : Good n p) {l : List (List Int)} (hl : l.Nodup) (h : ∀ r, r ∈ l ↔ Chr n p r) : l.length = cO n p := len_mem hl (outsS_nodup hg) fun r => (h r).trans (mem_outsS hg).symm
theorem cO_loop {n : Nat} {p : List (Int × Int)} {a : Int} (hg : Good n ((a, a) :: p)) : cO n ((a, a) :: p) = cO n p := by
  have ha := (hg _ List.mem_cons_self).1
  have gp := good_tail hg
  have lt : ∀ r ∈ outsS n p, a < (r.length : Int) := fun r hr => by rw [((mem_outsS gp).mp hr).len]; exact ha.2
  refine Eq.trans (cO_of hg (l := (outsS n p).map fun r => inc r a 1) ?_ fun r => ?_).symm (List.length_map _)
  · refine List.nodup_iff_pairwise_ne.mpr (List.pairwise_map.mpr ?_)
    refine List.Pairwise.imp_of_mem (fun {u v} hu hv ne e => ne ?_) (List.nodup_iff_pairwise_ne.mp (outsS_nodup gp))
    have e2 := congrArg (fun z => inc z a (-1)) e
    rwa [inc_inc ha.1 (lt u hu) (by omega), inc_inc ha.1 (lt v hv) (by omega)] at e2
  · have pm : ((a, a) :: p).Perm (p ++ [(a, a)]) := (List.perm_append_singleton _ _).symm
    rw [List.mem_map]
    constructor
    · rintro ⟨u, hu, rfl⟩
      exact chr_perm ((chr_step ha ha).mpr ⟨u, (mem_outsS gp).mp hu, .inl rfl⟩) pm.symm
    · intro h
      obtain ⟨u, hu, e⟩ := (chr_step ha ha).mp (chr_perm h pm)
      exact ⟨u, (mem_outsS gp).mpr hu, (e.elim id id).symm⟩
theorem smO_zero (S : Int → Bool) : ∀ (n : Nat) (k : Int), smO S k (List.replicate n 0) = 0
  | 0, k => rfl
  | n + 1, k => by rw [List.replicate_succ, smO, smO_zero S n]; split <;> rfl
theorem bt_chr {n m : Nat} {p : List Rd} {r : List Int} : BT n p (List.replicate m 0) r ↔ Chr n p r :=
  ⟨fun h => h.chr, fun h => ⟨h.len, h.sum, fun S => by unfold Sm; rw [smO_zero]; have := h.cut S; unfold Sm at this; rw [pos_zero]; omega⟩⟩
theorem J_zero {n : Nat} {low high : Int} (h0 : 0 ≤ low) (hl : low < high) (hh : high < n) : J low high (List.replicate n 0) 0 = List.replicate (n - 1) 0 := by
  have lr : (List.replicate n (0 : Int)).length = n := List.length_replicate
  refine Sm_ext (by rw [J_len ⟨by omega, by rw [lr]; exact hh⟩, lr, List.length_replicate]) fun S => ?_
  rw [Sm_J h0 hl (by rw [lr]; exact hh)]
  unfold Sm
  rw [smO_zero, smO_zero]
  unfold iv
  split <;> rfl
theorem nm_good {n : Nat} {low high : Int} (h0 : 0 ≤ low) (hl : low < high) (hh : high < n) {p : List (Int × Int)} (hg : Good n p) : Good ((n - 1 : Nat) : Int) (p.map (nm2 low high)) := fun q hq => by
  obtain ⟨z, hz, rfl⟩ := List.mem_map.mp hq
  obtain ⟨⟨a1, a2⟩, b1, b2⟩ := hg z hz
  show (0 ≤ nm low high z.1 ∧ nm low high z.1 < _) ∧ 0 ≤ nm low high z.2 ∧ nm low high z.2 < _
  unfold nm
  refine ⟨?_, ?_⟩ <;> (split <;> (try split)) <;> omega
theorem cO_road {n : Nat} {p : List (Int × Int)} {a b : Int} (hg : Good n ((a, b) :: p)) (ne : a ≠ b) : cO n ((a, b) :: p) = cO n p + cO (n - 1) (p.map (nm2 (min a b) (max a b))) := by
  obtain ⟨⟨a1, a2⟩, b1, b2⟩ := hg _ List.mem_cons_self
  have gp := good_tail hg
  have l : Lh a b (min a b) (max a b) := ⟨by omega, by omega⟩
  have h0 : 0 ≤ min a b := by omega
  have hh : max a b < n := by omega
  have gn := nm_good h0 l.lt hh gp
  have x : Cx n p ((a, b) :: p) a b (List.replicate n 0) := ⟨⟨a1, a2⟩, ⟨b1, b2⟩, ne, .refl _⟩
  have L : Lists n p ((a, b) :: p) (List.replicate n 0) (min a b) (max a b) (outsS n ((a, b) :: p)) (outsS n p) (outsS (n - 1) (p.map (nm2 (min a b) (max a b)))) :=
    ⟨outsS_nodup hg, fun r => (mem_outsS hg).trans bt_chr.symm, outsS_nodup gp, fun r => (mem_outsS gp).trans bt_chr.symm, outsS_nodup gn, fun k => by rw [J_zero h0 l.lt hh]; exact (mem_outsS gn).trans bt_chr.symm⟩
  exact (straight l x List.length_replicate L).2.2.1
/-! ### lots that are free, told by heads -/
/-- heads: a function of the crossings -/
def mg (h : Int → Int) (p : Int × Int) : Int → Int := fun c => if h c = h p.2 then h p.1 else h c
def fcnt (h : Int → Int) : List (Int × Int) → Nat
  | [] => 1
  | p :: r => fcnt h r + if h p.1 = h p.2 then 0 else fcnt (mg h p) r
def Same (n : Int) (h g : Int → Int) : Prop := ∀ c d, 0 ≤ c → c < n → 0 ≤ d → d < n → (g c = g d ↔ h c = h d)
theorem nm_eq {low high : Int} (hl : low < high) (c d : Int) : nm low high c = nm low high d ↔ c = d ∨ ((c = low ∨ c = high) ∧ (d = low ∨ d = high)) := by
  unfold nm
  by_cases h1 : c = high
  · rw [if_pos h1]
    by_cases h2 : d = high
    · rw [if_pos h2]; omega
    · rw [if_neg h2]; split <;> omega
  · rw [if_neg h1]
    by_cases h2 : d = high
    · rw [if_pos h2]; split <;> omega
    · rw [if_neg h2]; split <;> split <;> omega
theorem nm_range {n : Nat} {low high : Int} (h0 : 0 ≤ low) (hl : low < high) (hh : high < n) {c : Int} (c0 : 0 ≤ c) (c1 : c < n) : 0 ≤ nm low high c ∧ nm low high c < ((n - 1 : Nat) : Int) := by
  unfold nm
  split <;> (try split) <;> omega
theorem cO_nil (n : Nat) : cO n [] = 1 := by unfold cO outsS; rw [List.length_mergeSort]; rfl
theorem mm_eq (x A B : Int) : (x = min A B ∨ x = max A B) ↔ (x = A ∨ x = B) := by omega
theorem mg_eq {x y A B : Int} : ((if x = B then A else x) = if y = B then A else y) ↔ x = y ∨ ((x = A ∨ x = B) ∧ (y = A ∨ y = B)) := by
  by_cases h1 : x = B
  · rw [if_pos h1]
    by_cases h2 : y = B
    · rw [if_pos h2]; omega
    · rw [if_neg h2]; omega
  · rw [if_neg h1]
    by_cases h2 : y = B
    · rw [if_pos h2]; omega
    · rw [if_neg h2]; omega
theorem fcnt_cO {n : Int} : ∀ (p : List (Int × Int)) (k : Nat) (h g : Int → Int), Good n p → Same n h g → (∀ c, 0 ≤ c → c < n → 0 ≤ g c ∧ g c < k) → fcnt h p = cO k (p.map fun q => (g q.1, g q.2))
  | [], k, h, g, _, _, _ => (cO_nil k).symm
  | (a, b) :: p, k, h, g, hp, hs, hr => by
    obtain ⟨⟨a1, a2⟩, b1, b2⟩ := hp _ List.mem_cons_self
    have gp := good_tail hp
    have gk : Good k (((a, b) :: p).map fun q => (g q.1, g q.2)) := fun q hq => by
      obtain ⟨z, hz, rfl⟩ := List.mem_map.mp hq
      obtain ⟨⟨c1, c2⟩, d1, d2⟩ := hp z hz
      exact ⟨hr _ c1 c2, hr _ d1 d2⟩
    have ih := fcnt_cO p k h g gp hs hr
    unfold fcnt
    rw [List.map_cons] at gk ⊢
    show _ = cO k ((g a, g b) :: _)
    by_cases e : h a = h b
    · have eg : g a = g b := (hs a b a1 a2 b1 b2).mpr e
      rw [if_pos e, Nat.add_zero, ih, eg]
      rw [eg] at gk
      exact (cO_loop gk).symm
    · have ng : g a ≠ g b := fun z => e ((hs a b a1 a2 b1 b2).mp z)
      rw [if_neg e, cO_road gk ng, ih]
      congr 1
      have ra := hr a a1 a2
      have rb := hr b b1 b2
      have lt : min (g a) (g b) < max (g a) (g b) := by omega
      have l0 : 0 ≤ min (g a) (g b) := by omega
      have lh : max (g a) (g b) < k := by omega
      have ih2 := fcnt_cO p (k - 1) (mg h (a, b)) (fun c => nm (min (g a) (g b)) (max (g a) (g b)) (g c)) gp (fun c d c0 c1 d0 d1 => ?_) fun c c0 c1 => nm_range l0 lt lh (hr c c0 c1).1 (hr c c0 c1).2
      · rw [ih2, List.map_map]
        rfl
      · rw [nm_eq lt]
        have e1 := hs c d c0 c1 d0 d1
        have e2 := hs c a c0 c1 a1 a2
        have e3 := hs c b c0 c1 b1 b2
        have e4 := hs d a d0 d1 a1 a2
        have e5 := hs d b d0 d1 b1 b2
        rw [mm_eq, mm_eq, e1, e2, e3, e4, e5]
        exact mg_eq.symm
end Out

set_option Elab.async false
set_option linter.all false
set_option maxRecDepth 100000
/-! K33B: points told by lots; ends less points. -/
namespace Out
open W2 Bet
def hd0 (r : List Int) : List Int := 0 :: r.drop 1
def pts (n : Nat) (p : List Rd) : List (List Int) := ((outsS n p).map hd0).mergeSort leL
def cutc (p : List Rd) (S : Int → Bool) : Int := ((p.filter fun q => S q.1 != S q.2).length : Nat)
theorem cutc_cons (q : Rd) (p : List Rd) (S : Int → Bool) : cutc (q :: p) S = iv (S q.1 != S q.2) 1 + cutc p S := by
  unfold cutc iv
  rw [List.filter_cons]
  split <;> rename_i h
  · rw [List.length_cons]; omega
  · omega
theorem cutc_nn (p : List Rd) (S : Int → Bool) : 0 ≤ cutc p S := by unfold cutc; omega
theorem cnt_split (S : Int → Bool) : ∀ p : List Rd, cnt p S + cnt p (fun c => !S c) + cutc p S = p.length
  | [] => rfl
  | q :: p => by
    have ih := cnt_split S p
    rw [cnt_cons, cnt_cons, cutc_cons, List.length_cons]
    have e : iv (isIn S q) 1 + iv (isIn (fun c => !S c) q) 1 + iv (S q.1 != S q.2) 1 = 1 := by
      unfold isIn
      simp only
      cases S q.1 <;> cases S q.2 <;> rfl
    have e2 : ((p.length + 1 : Nat) : Int) = (p.length : Int) + 1 := by omega
    omega
theorem Sm_comp (r : List Int) (S : Int → Bool) : Sm r S + Sm r (fun c => !S c) = r.sum := by
  have h := Sm_add r S fun c => !S c
  have e1 : (fun c => S c || !S c) = fun _ => true := by funext c; cases S c <;> rfl
  have e2 : (fun c => S c && !S c) = fun _ => false := by funext c; cases S c <;> rfl
  rw [e1, e2, Sm_true, Sm_false] at h
  omega
theorem Sm_head {x y : Int} {hs : List Int} {T : Int → Bool} (h : T 0 = false) : Sm (x :: hs) T = Sm (y :: hs) T := by
  unfold Sm smO
  rw [h]
  simp
/-- what heights keep, lot by lot -/
def Lim (p : List Rd) (k : List Int) : Prop := ∀ T : Int → Bool, T 0 = false → cnt p T ≤ Sm k T ∧ Sm k T ≤ cnt p T + cutc p T
theorem cutc_not (p : List Rd) (S : Int → Bool) : cutc p (fun c => !S c) = cutc p S := by
  unfold cutc
  congr 1
  congr 1
  refine List.filter_congr fun q _ => ?_
  show ((!S q.1) != (!S q.2)) = (S q.1 != S q.2)
  cases S q.1 <;> cases S q.2 <;> rfl
theorem lim_chr {n : Nat} {p : List Rd} {hs : List Int} (hl : hs.length + 1 = n) : Lim p (0 :: hs) ↔ Chr n p (((p.length : Int) - hs.sum) :: hs) := by
  have sm : (((p.length : Int) - hs.sum) :: hs).sum = p.length := by rw [List.sum_cons]; omega
  constructor
  · intro h
    refine ⟨by simpa using hl, sm, fun S => ?_⟩
    cases h0 : S 0 with
    | false => rw [Sm_head (y := 0) h0]; exact (h S h0).1
    | true =>
      have h1 := (h (fun c => !S c) (by rw [h0]; rfl)).2
      have h2 := Sm_comp (((p.length : Int) - hs.sum) :: hs) S
      have h3 := cnt_split S p
      rw [cutc_not] at h1
      rw [sm, Sm_head (T := fun c => !S c) (y := 0) (by rw [h0]; rfl)] at h2
      omega
  · intro h T h0
    have h1 := h.cut T
    have h2 := h.cut fun c => !T c
    have h3 := Sm_comp (((p.length : Int) - hs.sum) :: hs) T
    have h4 := cnt_split T p
    rw [sm] at h3
    rw [Sm_head (y := 0) h0] at h1 h3
    omega
theorem hd0_inj {n : Nat} {p : List Rd} (hn : 1 ≤ n) {r r' : List Int} (h : Chr n p r) (h' : Chr n p r') (e : hd0 r = hd0 r') : r = r' := by
  have l := h.len; have l' := h'.len; have s := h.sum; have s' := h'.sum
  unfold hd0 at e
  cases r with
  | nil => simp at l; omega
  | cons x t =>
    cases r' with
    | nil => simp at l'; omega
    | cons y u =>
      simp only [List.drop_succ_cons, List.drop_zero, List.cons.injEq, true_and] at e
      subst e
      rw [List.sum_cons] at s s'
      congr 1
      omega
theorem mem_pts {n : Nat} {p : List Rd} (hn : 1 ≤ n) (hg : Good n p) {k : List Int} : k ∈ pts n p ↔ ∃ hs, k = 0 :: hs ∧ hs.length + 1 = n ∧ Lim p k := by
  unfold pts
  rw [(List.mergeSort_perm _ _).mem_iff, List.mem_map]
  constructor
  · rintro ⟨r, hr, rfl⟩
    have h := (mem_outsS hg).mp hr
    have l := h.len; have s := h.sum
    cases r with
    | nil => simp at l; omega
    | cons x t =>
      have lt : t.length + 1 = n := by simpa using l
      refine ⟨t, rfl, lt, (lim_chr lt).mpr ?_⟩
      rw [List.sum_cons] at s
      rw [show (p.length : Int) - t.sum = x by omega]
      exact h
  · rintro ⟨hs, rfl, l, h⟩
    exact ⟨_, (mem_outsS hg).mpr ((lim_chr l).mp h), rfl⟩
theorem hd_nodup {n : Nat} {p : List Rd} (hn : 1 ≤ n) (hg : Good n p) {l : List (List Int)} (hl : l.Nodup) (hm : ∀ r ∈ l, Chr n p r) : (l.map hd0).Nodup := by
  refine List.nodup_iff_pairwise_ne.mpr (List.pairwise_map.mpr ?_)
  exact List.Pairwise.imp_of_mem (fun {u v} hu hv ne e => ne (hd0_inj hn (hm u hu) (hm v hv) e)) (List.nodup_iff_pairwise_ne.mp hl)
theorem pts_nodup {n : Nat} {p : List Rd} (hn : 1 ≤ n) (hg : Good n p) : (pts n p).Nodup :=
  (List.mergeSort_perm _ _).nodup_iff.mpr (hd_nodup hn hg (outsS_nodup hg) fun r hr => (mem_outsS hg).mp hr)
theorem pts_len (n : Nat) (p : List Rd) : (pts n p).length = cO n p := by unfold pts cO; rw [List.length_mergeSort, List.length_map]
/-! ### lots of all crossings but the first -/
def lotsV : Nat → List (List Int)
  | 0 => [[]]
  | j + 1 => lotsV j ++ (lotsV j).map (· ++ [((j + 1 : Nat) : Int)])
theorem lotsV_in : ∀ (j : Nat) (L : List Int), L ∈ lotsV j → SS L ∧ ∀ c ∈ L, 1 ≤ c ∧ c < (j + 1 : Nat)
  | 0, L, h => by rw [lotsV, List.mem_singleton] at h; subst h; exact ⟨List.Pairwise.nil, fun c hc => nomatch hc⟩
  | j + 1, L, h => by
    rw [lotsV, List.mem_append, List.mem_map] at h
    rcases h with h | ⟨M, h, rfl⟩
    · obtain ⟨h1, h2⟩ := lotsV_in j L h
      exact ⟨h1, fun c hc => by have := h2 c hc; omega⟩
    · obtain ⟨h1, h2⟩ := lotsV_in j M h
      refine ⟨?_, fun c hc => ?_⟩
      · unfold SS
        rw [List.pairwise_append]
        refine ⟨h1, List.pairwise_singleton _ _, fun a ha b hb => ?_⟩
        rw [List.mem_singleton] at hb
        have := h2 a ha
        omega
      · rw [List.mem_append, List.mem_singleton] at hc
        rcases hc with hc | hc
        · have := h2 c hc; omega
        · omega
theorem lotsV_all (T : Int → Bool) : ∀ j : Nat, ∃ L ∈ lotsV j, ∀ c : Int, 1 ≤ c → c < (j + 1 : Nat) → T c = decide (c ∈ L)
  | 0 => ⟨[], List.mem_singleton.mpr rfl, fun c h1 h2 => by omega⟩
  | j + 1 => by
    obtain ⟨L, hL, h⟩ := lotsV_all T j
    have nL : ∀ c ∈ L, c < (j + 1 : Nat) := fun c hc => ((lotsV_in j L hL).2 c hc).2
    cases q : T ((j + 1 : Nat) : Int) with
    | false =>
      refine ⟨L, by rw [lotsV]; exact List.mem_append.mpr (.inl hL), fun c h1 h2 => ?_⟩
      by_cases e : c = ((j + 1 : Nat) : Int)
      · rw [e, q]; symm; exact decide_eq_false fun z => by have := nL _ z; omega
      · exact h c h1 (by omega)
    | true =>
      refine ⟨L ++ [((j + 1 : Nat) : Int)], by rw [lotsV]; exact List.mem_append.mpr (.inr (List.mem_map.mpr ⟨L, hL, rfl⟩)), fun c h1 h2 => ?_⟩
      by_cases e : c = ((j + 1 : Nat) : Int)
      · rw [e, q]; symm; exact decide_eq_true (by simp)
      · rw [h c h1 (by omega)]
        congr 1
        rw [List.mem_append, List.mem_singleton]
        exact propext ⟨.inl, fun z => z.elim id fun z => absurd z e⟩
theorem lotsV_len : ∀ j, (lotsV j).length = 2 ^ j
  | 0 => rfl
  | j + 1 => by rw [lotsV, List.length_append, List.length_map, lotsV_len j, Nat.pow_succ]; omega
def memb (L : List Int) : Int → Bool := fun c => decide (c ∈ L)
/-- the lots that the law looks at -/
def LotsOk (n : Nat) (ls : List (List Int)) : Prop := (∀ L ∈ ls, SS L ∧ ∀ c ∈ L, 1 ≤ c ∧ c < n) ∧ ∀ L ∈ lotsV (n - 1), L ≠ [] → L ∈ ls
theorem cutc_congr {S T : Int → Bool} {n : Int} {p : List Rd} (hg : Good n p) (h : ∀ c, 0 ≤ c → c < n → S c = T c) : cutc p S = cutc p T := by
  unfold cutc
  congr 2
  refine List.filter_congr fun q hq => ?_
  obtain ⟨⟨a1, a2⟩, b1, b2⟩ := hg q hq
  rw [h _ a1 a2, h _ b1 b2]
theorem fits_iff {n : Nat} {p : List Rd} (hn : 1 ≤ n) (hg : Good n p) {ls : List (List Int)} (hl : LotsOk n ls) {hs : List Int} (l : hs.length + 1 = n) :
    (hs.sum ≤ p.length ∧ ∀ L ∈ ls, cnt p (memb L) ≤ Sm (0 :: hs) (memb L) ∧ Sm (0 :: hs) (memb L) ≤ cnt p (memb L) + cutc p (memb L)) ↔ 0 :: hs ∈ pts n p := by
  rw [mem_pts hn hg]
  constructor
  · rintro ⟨_, h⟩
    refine ⟨hs, rfl, l, fun T h0 => ?_⟩
    obtain ⟨L, hL, e⟩ := lotsV_all T (n - 1)
    have e' : ∀ c : Int, 0 ≤ c → c < (n : Int) → T c = memb L c := fun c c0 c1 => by
      by_cases z : c = 0
      · rw [z, h0]; symm; exact decide_eq_false fun q => by have := ((lotsV_in _ L hL).2 _ q).1; omega
      · exact e c (by omega) (by omega)
    rw [cnt_congr hg e', cutc_congr hg e', Sm_congr (S := T) (T := memb L) fun c c0 c1 => e' c c0 (by simp only [List.length_cons] at c1; omega)]
    by_cases ne : L = []
    · subst ne
      have : memb [] = fun _ => false := by funext c; rfl
      rw [this, cnt_false, Sm_false]
      have := cutc_nn p fun _ => false
      omega
    · exact h L (hl.2 L hL ne)
  · rintro ⟨hs', e, _, h⟩
    refine ⟨?_, fun L hL => h _ ?_⟩
    · have c := (lim_chr l).mp h
      have q := c.cut fun x => decide (x = 0)
      rw [Sm_one (by omega) (by simp only [List.length_cons]; omega)] at q
      have z := cnt_nonneg p fun x => decide (x = 0)
      have : at_ (((p.length : Int) - hs.sum) :: hs) 0 = (p.length : Int) - hs.sum := rfl
      omega
    · exact decide_eq_false fun q => by have := ((hl.1 L hL).2 _ q).1; omega
/-! ### ends less points -/
def deg (p : List Rd) (c : Int) : Int := ((p.filter fun q => decide (c = q.1) || decide (c = q.2)).length : Nat)
def tab (n : Nat) (f : Int → Int) : List Int := (List.range n).map fun i : Nat => f i
def endsL (n : Nat) (p : List Rd) : List Int := 0 :: ((List.range (n - 1)).map fun i : Nat => deg p ((i : Int) + 1))
theorem smO_addm {α : Type} (S : Int → Bool) (f g : α → Int) : ∀ (l : List α) (k : Int), smO S k (l.map fun i => f i + g i) = smO S k (l.map f) + smO S k (l.map g)
  | [], k => rfl
  | x :: l, k => by
    rw [List.map_cons, List.map_cons, List.map_cons, smO, smO, smO, smO_addm S f g l]
    split <;> omega
theorem tab_one {n : Nat} {a : Int} (h0 : 0 ≤ a) (h1 : a < n) : tab n (fun c => if c = a then 1 else 0) = inc (List.replicate n 0) a 1 := by
  have z : at_ (List.replicate n 0) a = 0 := by
    unfold at_
    rw [List.getD_eq_getElem?_getD, List.getElem?_replicate]
    split <;> rfl
  unfold tab inc
  rw [z]
  refine List.ext_getElem (by simp) fun i h2 h3 => ?_
  have lt : i < n := by simpa using h2
  rw [List.getElem_map, List.getElem_range, List.getElem_set, List.getElem_replicate]
  show (if (i : Int) = a then (1 : Int) else 0) = _
  by_cases e : (i : Int) = a
  · rw [if_pos e, if_pos (by omega)]; rfl
  · rw [if_neg e, if_neg (by omega)]
theorem Sm_tab1 {n : Nat} {a : Int} (h0 : 0 ≤ a) (h1 : a < n) (S : Int → Bool) : Sm (tab n fun c => if c = a then 1 else 0) S = iv (S a) 1 := by
  rw [tab_one h0 h1, Sm_inc S h0 (by rw [List.length_replicate]; exact h1)]
  unfold Sm
  rw [smO_zero]
  omega
theorem Sm_deg {n : Nat} (S : Int → Bool) : ∀ p : List Rd, Good n p → (∀ q ∈ p, q.1 ≠ q.2) → Sm (tab n (deg p)) S = 2 * cnt p S + cutc p S
  | [], _, _ => by
    have : tab n (deg []) = List.replicate n 0 := by
      unfold tab
      refine List.ext_getElem (by simp) fun i h2 h3 => ?_
      rw [List.getElem_map, List.getElem_replicate]
      rfl
    rw [this]
    unfold Sm
    rw [smO_zero]
    rfl
  | q :: p, hg, hd => by
    have ih := Sm_deg S p (good_tail hg) fun z hz => hd z (List.mem_cons_of_mem _ hz)
    obtain ⟨⟨a1, a2⟩, b1, b2⟩ := hg q List.mem_cons_self
    have ne := hd q List.mem_cons_self
    have e : tab n (deg (q :: p)) = (List.range n).map fun i : Nat => ((if (i : Int) = q.1 then 1 else 0) + ((if (i : Int) = q.2 then 1 else 0) + deg p i)) := by
      unfold tab
      refine List.map_congr_left fun i _ => ?_
      unfold deg
      rw [List.filter_cons]
      by_cases h1 : (i : Int) = q.1
      · rw [if_pos (by rw [decide_eq_true h1]; rfl), List.length_cons, if_pos h1, if_neg (by omega)]; omega
      · by_cases h2 : (i : Int) = q.2
        · rw [if_pos (by rw [decide_eq_true h2, Bool.or_true]), List.length_cons, if_neg h1, if_pos h2]; omega
        · rw [if_neg (by rw [decide_eq_false h1, decide_eq_false h2]; simp), if_neg h1, if_neg h2]; omega
    rw [e, cnt_cons, cutc_cons]
    unfold Sm
    rw [smO_addm S (fun i : Nat => if (i : Int) = q.1 then 1 else 0), smO_addm S (fun i : Nat => if (i : Int) = q.2 then 1 else 0)]
    have t1 := Sm_tab1 a1 a2 S
    have t2 := Sm_tab1 b1 b2 S
    unfold Sm tab at t1 t2 ih
    rw [t1, t2, ih]
    unfold isIn iv
    cases S q.1 <;> cases S q.2 <;> simp <;> omega
theorem ends_tab (n : Nat) (hn : 1 ≤ n) (p : List Rd) : endsL n p = 0 :: (tab n (deg p)).drop 1 := by
  unfold endsL tab
  congr 1
  obtain ⟨m, rfl⟩ : ∃ m, n = m + 1 := ⟨n - 1, by omega⟩
  rw [Nat.add_sub_cancel, List.range_succ_eq_map, List.map_cons, List.drop_succ_cons, List.drop_zero, List.map_map]
  refine List.map_congr_left fun i _ => ?_
  show _ = deg p ((i + 1 : Nat) : Int)
  congr 1
theorem Sm_ends {n : Nat} (hn : 1 ≤ n) {p : List Rd} (hg : Good n p) (hd : ∀ q ∈ p, q.1 ≠ q.2) {S : Int → Bool} (h0 : S 0 = false) : Sm (endsL n p) S = 2 * cnt p S + cutc p S := by
  rw [ends_tab n hn, ← Sm_deg S p hg hd]
  have : tab n (deg p) = deg p 0 :: (tab n (deg p)).drop 1 := by
    unfold tab
    obtain ⟨m, rfl⟩ : ∃ m, n = m + 1 := ⟨n - 1, by omega⟩
    rw [List.range_succ_eq_map, List.map_cons, List.drop_succ_cons, List.drop_zero]
    rfl
  conv => rhs; rw [this]
  exact Sm_head h0
def minus (a b : List Int) : List Int := List.zipWith (fun x y => x - y) a b
theorem smO_minus (S : Int → Bool) : ∀ (a b : List Int) (k : Int), a.length = b.length → smO S k (minus a b) = smO S k a - smO S k b
  | [], [], k, _ => rfl
  | x :: a, y :: b, k, h => by
    have ih := smO_minus S a b (k + 1) (by simpa using h)
    unfold minus at ih ⊢
    rw [List.zipWith_cons_cons, smO, smO, smO, ih]
    split <;> omega
  | [], _ :: _, _, h => by simp at h
  | _ :: _, [], _, h => by simp at h
theorem endsL_len {n : Nat} (hn : 1 ≤ n) (p : List Rd) : (endsL n p).length = n := by unfold endsL; rw [List.length_cons, List.length_map, List.length_range]; omega
theorem minus_mem {n : Nat} (hn : 1 ≤ n) {p : List Rd} (hg : Good n p) (hd : ∀ q ∈ p, q.1 ≠ q.2) {k : List Int} (h : k ∈ pts n p) : minus (endsL n p) k ∈ pts n p := by
  obtain ⟨hs, rfl, l, h⟩ := (mem_pts hn hg).mp h
  have le := endsL_len hn p
  refine (mem_pts hn hg).mpr ⟨minus ((List.range (n - 1)).map fun i : Nat => deg p ((i : Int) + 1)) hs, rfl, ?_, fun T h0 => ?_⟩
  · unfold minus
    rw [List.length_zipWith, List.length_map, List.length_range]
    omega
  · have e := Sm_ends hn hg hd h0
    have z := h T h0
    unfold Sm at e z ⊢
    rw [smO_minus T _ _ _ (by rw [le, List.length_cons]; omega), e]
    omega
theorem minus_minus : ∀ (a b : List Int), a.length = b.length → minus a (minus a b) = b
  | [], [], _ => rfl
  | x :: a, y :: b, h => by
    have ih := minus_minus a b (by simpa using h)
    unfold minus at ih ⊢
    rw [List.zipWith_cons_cons, List.zipWith_cons_cons, ih]
    congr 1
    omega
  | [], _ :: _, h => by simp at h
  | _ :: _, [], h => by simp at h
theorem pts_row {n : Nat} (hn : 1 ≤ n) {p : List Rd} (hg : Good n p) {k : List Int} (h : k ∈ pts n p) : k.length = n := by
  obtain ⟨hs, rfl, l, _⟩ := (mem_pts hn hg).mp h
  simpa using l
theorem pts_sorted (n : Nat) (p : List Rd) : (pts n p).Pairwise fun a b => leL a b = true := List.pairwise_mergeSort leL_total.trans (fun a b => by have := leL_total.total a b; simpa using this) _
theorem minus_sort {n : Nat} (hn : 1 ≤ n) {p : List Rd} (hg : Good n p) (hd : ∀ q ∈ p, q.1 ≠ q.2) : ((pts n p).map (minus (endsL n p))).mergeSort leL = pts n p := by
  have le := endsL_len hn p
  have nd : ((pts n p).map (minus (endsL n p))).Nodup := by
    refine List.nodup_iff_pairwise_ne.mpr (List.pairwise_map.mpr ?_)
    refine List.Pairwise.imp_of_mem (fun {u v} hu hv ne e => ne ?_) (List.nodup_iff_pairwise_ne.mp (pts_nodup hn hg))
    have e2 := congrArg (minus (endsL n p)) e
    rwa [minus_minus _ _ (by rw [le, pts_row hn hg hu]), minus_minus _ _ (by rw [le, pts_row hn hg hv])] at e2
  have pm : ((pts n p).map (minus (endsL n p))).Perm (pts n p) := (List.perm_ext_iff_of_nodup nd (pts_nodup hn hg)).mpr fun k => by
    rw [List.mem_map]
    constructor
    · rintro ⟨u, hu, rfl⟩; exact minus_mem hn hg hd hu
    · intro h; exact ⟨_, minus_mem hn hg hd h, minus_minus _ _ (by rw [le, pts_row hn hg h])⟩
  rw [sort_of_perm leL_total (fun a b => leL_anti) pm]
  exact List.mergeSort_of_pairwise (pts_sorted n p)
end Out

set_option Elab.async false
set_option linter.all false
set_option maxRecDepth 100000
/-! K33C: rows of outs walked. -/
namespace K33
open PySem PySem.Spec PyProof.Rows L2 W2 PySem.W Bet Out

def liD (l : List Int) : W2.D := .list (l.map .int)
def IsRow (d : W2.D) (l : List Int) : Prop := d = lotD l ∨ d = liD l
theorem shaped_li (l : List Int) : SeqAt.shaped (liD l) = true := shaped_of (lay_ints l) (Nat.succ_le_succ (Nat.le_trans (depthAll_map (e := PyData.int) (n := 0) (fun _ => Nat.le_refl 0) _) (by decide)))
theorem in_row {neg : Bool} {x : Int} {l : List Int} {d : W2.D} {Q : W2.D → Prop} (hd : IsRow d l) (h : Q (.bool (if neg then !decide (x ∈ l) else decide (x ∈ l)))) : gInA neg (.int x) d Q := by
  rcases hd with rfl | rfl
  · exact in_lot h
  · refine ⟨rfl, shaped_li l, ?_⟩
    rw [any_int]
    exact h
theorem at_row {r : List Int} {c : Int} (h0 : 0 ≤ c) (h1 : c < r.length) : L2.atI (r.map PyData.int) c = some (.int (at_ r c)) := by
  have hi : c.toNat < r.length := by omega
  unfold L2.atI ixN
  rw [List.length_map, if_pos h0, if_pos (by omega)]
  show (r.map PyData.int)[c.toNat]? = _
  rw [List.getElem?_map, List.getElem?_eq_getElem hi]
  unfold at_
  rw [List.getD_eq_getElem?_getD, List.getElem?_eq_getElem hi]
  rfl
theorem ix_row {r : List Int} {d : W2.D} {c : Int} {P : W2.D → Prop} (hd : IsRow d r) (h0 : 0 ≤ c) (h1 : c < r.length) (h : P (.int (at_ r c))) : gIxA d (.int c) P := by
  rcases hd with rfl | rfl <;> exact ⟨_, at_row h0 h1, h⟩
def atL (r L : List Int) : Int := (L.map (at_ r)).sum
def wf_with : WF := fun ds Q => ∃ (r : List Int) (c d : Int), ds = [lotD r, .int c, .int d] ∧ 0 ≤ c ∧ c < r.length ∧ r.length ≤ 1000 ∧ Q (lotD (inc r c d))
theorem enum_ints (l : List Int) : (enumD (l.map PyData.int)).map PyData.tuple = l.zipIdx.map fun p => PyData.tuple [.int (p.2 : Nat), .int p.1] := by
  unfold enumD
  rw [List.zipIdx_map, List.map_map, List.map_map]
  rfl
theorem inc_enum (r : List Int) (c d : Int) (h0 : 0 ≤ c) (h1 : c < r.length) : (r.zipIdx.map fun p => if ((p.2 : Nat) : Int) = c then p.1 + d else p.1) = inc r c d := by
  apply List.ext_getElem?
  intro i
  unfold inc at_
  rw [List.getElem?_map, List.getElem?_zipIdx, List.getElem?_set, List.getD_eq_getElem?_getD]
  by_cases e : c.toNat = i
  · subst e
    have hi : c.toNat < r.length := by omega
    rw [if_pos rfl, if_pos hi, List.getElem?_eq_getElem hi]
    show some (if ((0 + c.toNat : Nat) : Int) = c then _ else _) = some _
    rw [if_pos (by omega)]
    rfl
  · rw [if_neg e]
    cases q : r[i]? with
    | none => rfl
    | some x =>
      show some (if ((0 + i : Nat) : Int) = c then x + d else x) = some x
      rw [if_neg (by omega)]
theorem hw_with (ds : List W2.D) (Q : W2.D → Prop) (_ : ds.length = 3) (h : wf_with ds Q) : wb_with_one { nx := fun _ => Q .none, rt := Q } (startE ["outs", "crossing", "more", "place", "number"] (ds.map .fz)) := by
  obtain ⟨r, c, d, rfl, h0, h1, hl, q⟩ := h
  show lcGo _ _ _ _ ((enumD (r.map PyData.int)).map PyData.tuple) [] _
  rw [enum_ints]
  refine lc_fm (fun p : Int × Nat => PyData.tuple [.int (p.2 : Nat), .int p.1]) (fun p => some (.int (if ((p.2 : Nat) : Int) = c then p.1 + d else p.1))) r.zipIdx (fun p hp R hR => ?_) (le_line (by rw [List.length_zipIdx]; omega)) ?_
  · refine ⟨rfl, eqOk_of rfl rfl, ?_⟩
    show (if (((p.2 : Nat) : Int) == c) = true then R (some (.int (p.1 + d))) else R (some (.int p.1)))
    by_cases e : ((p.2 : Nat) : Int) = c
    · rw [if_pos e] at hR
      rw [if_pos (beq_iff_eq.mpr e)]
      exact hR
    · rw [if_neg e] at hR
      rw [if_neg (by rw [beq_iff_eq]; exact e)]
      exact hR
  · have e : r.zipIdx.filterMap (fun p => some (PyData.int (if ((p.2 : Nat) : Int) = c then p.1 + d else p.1))) = (inc r c d).map PyData.int := by
      rw [← inc_enum r c d h0 h1, List.map_map]
      exact congrFun List.filterMap_eq_map _
    rw [e]
    exact q
def ksE (v : W2.D) (k : List Int) : W2.D × W2.D := (lotD k, v)
def ksD (v : W2.D) (ks : List (List Int)) : W2.D := .dict (ks.map (ksE v))
theorem ks_keys (v : W2.D) (ks : List (List Int)) : (ks.map (ksE v)).map (·.1) = ks.map lotD := by rw [List.map_map]; rfl
theorem dPut_ks (v : W2.D) (ks : List (List Int)) (k : List Int) : dPut (ks.map (ksE v)) (lotD k) v = (addK ks k).map (ksE v) := by
  unfold dPut addK
  have e1 : ((ks.map (ksE v)).any fun e => PyData.eqv e.1 (lotD k)) = decide (k ∈ ks) := by
    rw [List.any_map]
    by_cases h : k ∈ ks
    · rw [decide_eq_true h, List.any_eq_true]
      exact ⟨k, h, (eqv_lot k k).trans (decide_eq_true rfl)⟩
    · rw [decide_eq_false h, List.any_eq_false]
      intro x hx z
      have : decide (x = k) = true := (eqv_lot x k).symm.trans z
      exact h (by rw [← of_decide_eq_true this]; exact hx)
  rw [e1]
  by_cases h : k ∈ ks
  · rw [if_pos (decide_eq_true h), if_pos h, List.map_map]
    refine List.map_congr_left fun x _ => ?_
    show (if PyData.eqv (lotD x) (lotD k) = true then (lotD x, v) else ksE v x) = ksE v x
    split <;> rfl
  · rw [if_neg (by rw [decide_eq_true_eq]; exact h), if_neg h, List.map_append]
    rfl
theorem kind_ks (v : W2.D) (ks : List (List Int)) (k : List Int) : kindOk (ks.map (ksE v)) (lotD k) = true := by
  unfold kindOk
  rw [List.all_map, List.all_eq_true]
  intro _ _
  rfl
theorem put_ks {v : W2.D} {ks : List (List Int)} {k : List Int} {P : W2.D → Prop} (hl : ks.length < 1000000) (h : P (ksD v (addK ks k))) : gSet (ksD v ks) (lotD k) v P := by
  refine ⟨keyOk_lot k, kind_ks v ks k, ?_, ?_⟩
  · rw [List.length_map]
    exact Nat.lt_of_lt_of_le hl (by rw [sizeLine_eq]; decide)
  · rw [dPut_ks]
    exact h
theorem rep0 (n : Nat) : (List.replicate n [PyData.int 0]).flatten = (List.replicate n (0 : Int)).map PyData.int := by
  induction n with
  | zero => rfl
  | succ n ih => rw [List.replicate_succ, List.flatten_cons, ih, List.replicate_succ]; rfl
theorem cutT (l : List Int) (k : Nat) : W2.cutD (l.map PyData.int) none (some (k : Int)) = (l.take k).map .int := by
  unfold W2.cutD
  rw [HT.sIx_none, HT.sIx_nat, List.length_map, List.drop_zero, List.map_take, Nat.sub_zero]
  by_cases h : k ≤ l.length
  · rw [Nat.min_eq_left h]
  · rw [Nat.min_eq_right (by omega), List.take_of_length_le (by rw [List.length_map]; omega), List.take_of_length_le (by rw [List.length_map]; omega)]
theorem cutDr {α : Type} (e : α → W2.D) (l : List α) (k : Nat) : W2.cutD (l.map e) (some (k : Int)) none = (l.drop k).map e := by
  unfold W2.cutD
  rw [HT.sIx_none, HT.sIx_nat, List.length_map, List.map_drop]
  by_cases h : k ≤ l.length
  · rw [Nat.min_eq_left h, List.take_of_length_le]
    rw [List.length_drop, List.length_map]
    exact Nat.le_refl _
  · rw [Nat.min_eq_right (by omega), List.drop_of_length_le (by rw [List.length_map]; exact Nat.le_refl _), List.drop_of_length_le (by rw [List.length_map]; omega), List.take_nil]
theorem set_cut (r : List Int) (k : Nat) (h : k < r.length) (x : Int) : (r.take k ++ [x]) ++ r.drop (k + 1) = r.set k x := by
  rw [List.set_eq_take_append_cons_drop, if_pos h, List.append_assoc]
  rfl
theorem outsK_bound {n : Nat} {p : List (Int × Int)} (hg : Good n p) (hl : p.length ≤ 12) : (outsK n p).length ≤ 4096 := by
  have := (outsK_all n _ p rfl hg).2.1
  exact Nat.le_trans this (Nat.le_trans (Nat.pow_le_pow_right (by decide) hl) (by decide))
def wf_outsR (wrap : List W2.D → W2.D) : WF := fun ds Q => ∃ (n : Nat) (roads : List (Int × Int)), ds = [frD n roads] ∧ 1 ≤ n ∧ n ≤ 10 ∧ roads.length ≤ 12 ∧ Good n roads ∧ Q (wrap ((outsS n roads).map lotD))
theorem good_pre {n : Int} {p q : List (Int × Int)} (h : Good n (p ++ q)) : Good n p := fun x hx => h x (List.mem_append.mpr (.inl hx))
theorem step_len (p : Int × Int) (rows : List (List Int)) : (Out.step rows p).length ≤ 2 * rows.length := by
  have := (step1_all p.1 p.2 rows [] List.nodup_nil).2.1
  have e : ([] : List (List Int)).length = 0 := rfl
  unfold Out.step
  omega
theorem step1_len (a b : Int) (late : List (List Int)) (r : List Int) : (step1 a b late r).length ≤ late.length + 2 := by
  unfold step1
  have e1 := addK_len (addK late (inc r a 1)) (inc r b 1)
  have e2 := addK_len late (inc r a 1)
  omega
structure RowsOk (n : Nat) (k : Nat) (rows : List (List Int)) : Prop where
  len : rows.length ≤ 2 ^ k
  each : ∀ r ∈ rows, r.length = n
theorem rows_step {n k : Nat} {rows : List (List Int)} {p : Int × Int} (h : RowsOk n k rows) : RowsOk n (k + 1) (Out.step rows p) := by
  refine ⟨?_, fun z hz => ?_⟩
  · have := step_len p rows
    have := h.len
    rw [Nat.pow_succ]
    omega
  · rcases ((step1_all p.1 p.2 rows [] List.nodup_nil).2.2 z).mp hz with q | ⟨r, hr, rfl | rfl⟩
    · cases q
    · rw [inc_len, h.each r hr]
    · rw [inc_len, h.each r hr]
theorem hw_outsR (ds : List W2.D) (Q : W2.D → Prop) (_ : ds.length = 1) (h : wf_outsR .tuple ds Q) : wb_outs_rows wf_with { nx := fun _ => Q .none, rt := Q } (startE ["frame", "found", "a", "b", "late", "row"] (ds.map .fz)) := by
  obtain ⟨n, roads, rfl, h1, hn, hl, hg, q⟩ := h
  refine ⟨(show 1 ≤ sizeLine by decide), _, rfl, (fun z => nomatch z), (show 1 ≤ 1000 by decide), by omega, by omega, ?_⟩
  rw [Int.toNat_natCast, rep0]
  refine ⟨keyOk_lot (List.replicate n 0), ⟨_, rfl⟩, ?_⟩
  refine ⟨_, rfl, ?_⟩
  show forGo _ _ _ (roads.map rdD) _
  have h0 : RowsOk n 0 [List.replicate n 0] := ⟨Nat.le_refl _, fun r hr => by rw [List.mem_singleton] at hr; rw [hr, List.length_replicate]⟩
  refine for_foldW rdD (fun (s : Nat × List (List Int)) η => RowsOk n s.1 s.2 ∧ ∃ a b c d, η = [.fz (frD n roads), .fz (ksD (.bool true) s.2), a, b, c, d]) (fun s p => (s.1 + 1, Out.step s.2 p)) (fun s => s.1) (fun _ => 1) (fun s x => Nat.le_refl _) (B := 12) roads (0, [List.replicate n 0]) _ ⟨h0, .un, .un, .un, .un, rfl⟩ (by rw [sum_one]; simpa using hl) (fun p hp s η hI hB Kc hK => ?_) (fun η hI => ?_)
  · obtain ⟨ok, a, b, c, d, rfl⟩ := hI
    have hB' : s.1 + 1 ≤ 12 := hB
    have big : s.2.length ≤ 4096 := Nat.le_trans ok.len (Nat.le_trans (Nat.pow_le_pow_right (by decide) (show s.1 ≤ 12 by omega)) (by decide))
    have gp := hg p hp
    refine ⟨rfl, ?_⟩
    show forGo _ _ _ ((s.2.map (ksE (.bool true))).map (·.1)) _
    rw [ks_keys]
    refine for_foldW lotD (fun late η => ∃ d, η = [.fz (frD n roads), .fz (ksD (.bool true) s.2), .fz (.int p.1), .fz (.int p.2), .ow (ksD (.bool true) late), d]) (step1 p.1 p.2) List.length (fun _ => 2) (step1_len p.1 p.2) (B := 10000) s.2 [] _ ⟨d, rfl⟩ (by rw [sum_const]; show 0 + _ ≤ _; omega) (fun r hr late η hI hB2 Kc2 hK2 => ?_) (fun η hI => ?_)
    · obtain ⟨d, rfl⟩ := hI
      have hr' := ok.each r hr
      refine ⟨rfl, r, p.1, 1, rfl, gp.1.1, by rw [hr']; exact gp.1.2, by omega, put_ks (by omega) ?_⟩
      refine ⟨rfl, r, p.2, 1, rfl, gp.2.1, by rw [hr']; exact gp.2.2, by omega, put_ks (by have := addK_len late (inc r p.1 1); omega) ?_⟩
      exact hK2 _ ⟨_, rfl⟩
    · obtain ⟨d, rfl⟩ := hI
      have ok2 := rows_step (p := p) ok
      have l2 : (Out.step s.2 p).length ≤ 4096 := Nat.le_trans ok2.len (Nat.le_trans (Nat.pow_le_pow_right (by decide) hB') (by decide))
      show (if decide ((8000 : Int) < (((Out.step s.2 p).map (ksE (.bool true))).length : Nat)) = true then _ else _)
      rw [List.length_map, if_neg (by rw [decide_eq_true_eq]; omega)]
      exact hK _ ⟨ok2, _, _, _, _, rfl⟩
  · have fin : ∀ (l : List (Int × Int)) (s : Nat × List (List Int)), (l.foldl (fun s p => (s.1 + 1, Out.step s.2 p)) s).2 = l.foldl Out.step s.2 := by
      intro l
      induction l with
      | nil => intro s; rfl
      | cons p l ih => intro s; rw [List.foldl_cons, List.foldl_cons, ih]
    obtain ⟨_, a, b, c, d, rfl⟩ := hI
    rw [fin]
    show sortOk (((outsK n roads).map (ksE (.bool true))).map (·.1)) = true ∧ Q (.tuple (sortD (((outsK n roads).map (ksE (.bool true))).map (·.1))))
    rw [ks_keys]
    refine ⟨sortOk_lot _, ?_⟩
    rw [sortD_lot]
    exact q
end K33

set_option Elab.async false
set_option linter.all false
set_option maxRecDepth 100000
/-! K33D: points walked, twice. -/
namespace K33
open PySem PySem.Spec PyProof.Rows L2 W2 PySem.W Bet Out

/-! ### heights of outs, the other way -/
def wf_heights : WF := fun ds Q => ∃ r : List Int, ds = [lotD r] ∧ r.length ≤ 1000 ∧ Q (lotD (hd0 r))
theorem cut1 (r : List Int) : W2.cutD (r.map PyData.int) (some 1) none = (r.drop 1).map .int := cutDr PyData.int r 1
theorem hw_heights (ds : List W2.D) (Q : W2.D → Prop) (_ : ds.length = 1) (h : wf_heights ds Q) : wb_heights_of_outs { nx := fun _ => Q .none, rt := Q } (startE ["outs"] (ds.map .fz)) := by
  obtain ⟨r, rfl, hl, q⟩ := h
  show (PyData.int 0 :: (W2.cutD (r.map PyData.int) (some 1) none ++ [])).length ≤ sizeLine ∧ Q (.tuple (PyData.int 0 :: (W2.cutD (r.map PyData.int) (some 1) none ++ [])))
  rw [cut1, List.append_nil]
  refine ⟨le_line ?_, q⟩
  rw [List.length_cons, List.length_map, List.length_drop]
  omega
def wf_points (wrap : List W2.D → W2.D) : WF := fun ds Q => ∃ (n : Nat) (roads : List (Int × Int)), ds = [frD n roads] ∧ 1 ≤ n ∧ n ≤ 10 ∧ roads.length ≤ 12 ∧ Good n roads ∧ Q (wrap ((pts n roads).map lotD))
theorem fm_map {α β : Type} (f : α → β) (l : List α) : l.filterMap (fun x => some (f x)) = l.map f := congrFun List.filterMap_eq_map _
theorem hw_points (ds : List W2.D) (Q : W2.D → Prop) (_ : ds.length = 1) (h : wf_points .tuple ds Q) : wb_points_of (wf_outsR .tuple) wf_heights { nx := fun _ => Q .none, rt := Q } (startE ["frame", "outs"] (ds.map .fz)) := by
  obtain ⟨n, roads, rfl, h1, hn, hl, hg, q⟩ := h
  refine ⟨rfl, n, roads, rfl, h1, hn, hl, hg, ?_⟩
  have ol : (outsS n roads).length ≤ 4096 := by unfold outsS; rw [List.length_mergeSort]; exact outsK_bound hg hl
  refine lc_fm lotD (fun r => some (lotD (hd0 r))) (outsS n roads) (fun r hr R hR => ?_) (le_line (by omega)) ?_
  · exact ⟨rfl, r, rfl, by rw [((mem_outsS hg).mp hr).len]; omega, hR⟩
  · rw [fm_map fun r => lotD (hd0 r)]
    have e : (outsS n roads).map (fun r => lotD (hd0 r)) = ((outsS n roads).map hd0).map lotD := by rw [List.map_map]; rfl
    rw [e]
    refine ⟨layAll_map lay_lot _, sortOk_lot _, ?_⟩
    rw [sortD_lot]
    exact q
theorem flats_int : ∀ l : List Int, flatsOf (l.map PyData.int) = some (l.map Sum.inl)
  | [] => rfl
  | x :: l => by
    show (flatsOf (l.map PyData.int)).map (Sum.inl x :: ·) = _
    rw [flats_int l]
    rfl
theorem inl_int (l : List Int) : (l.map (Sum.inl : Int → L2.Key)).map kD = l.map PyData.int := by rw [List.map_map]; rfl
theorem pairs_lot (v : W2.D) : ∀ ls : List (List Int), pairsT (ls.map fun k => PyData.tuple [lotD k, v]) = some (ls.map fun k => (k.map (Sum.inl : Int → L2.Key), v))
  | [] => rfl
  | k :: ls => by
    show (match flatsOf (k.map PyData.int), pairsT (ls.map fun k => PyData.tuple [lotD k, v]) with | some a, some l => some ((a, v) :: l) | _, _ => none) = _
    rw [flats_int, pairs_lot v ls]
    rfl
theorem merge_lot (v : W2.D) : ∀ (ls acc : List (List Int)), (ls.map fun k => (k.map (Sum.inl : Int → L2.Key), v)).foldl (fun a kv => dPut a (.tuple (kv.1.map kD)) kv.2) (acc.map (ksE v)) = (ls.foldl addK acc).map (ksE v)
  | [], acc => rfl
  | k :: ls, acc => by
    rw [List.map_cons, List.foldl_cons, List.foldl_cons, ← merge_lot v ls (addK acc k), inl_int]
    show _ = List.foldl _ ((addK acc k).map (ksE v)) _
    rw [← dPut_ks v acc k]
    rfl
theorem addK_all : ∀ (ls acc : List (List Int)), (acc ++ ls).Nodup → ls.foldl addK acc = acc ++ ls
  | [], acc, _ => by rw [List.append_nil]; rfl
  | k :: ls, acc, h => by
    have hk : k ∉ acc := fun z => by
      rw [List.nodup_append] at h
      exact h.2.2 k z k List.mem_cons_self rfl
    rw [List.foldl_cons]
    have e : addK acc k = acc ++ [k] := by unfold addK; rw [if_neg hk]
    rw [e, addK_all ls (acc ++ [k]) (by rw [List.append_assoc]; exact h), List.append_assoc]
    rfl
theorem pts_K {n : Nat} {roads : List (Int × Int)} (hn : 1 ≤ n) (hg : Good n roads) : ((outsK n roads).map hd0).mergeSort leL = pts n roads := by
  unfold pts outsS
  exact sort_of_perm leL_total (fun a b => leL_anti) ((List.mergeSort_perm _ _).symm.map hd0)
theorem hw_lpoints (ds : List W2.D) (Q : W2.D → Prop) (_ : ds.length = 1) (h : wf_points .list ds Q) : wb__law_points { nx := fun _ => Q .none, rt := Q } (startE ["frame", "found", "a", "b", "late", "row", "x"] (ds.map .fz)) := by
  obtain ⟨n, roads, rfl, h1, hn, hl, hg, q⟩ := h
  refine ⟨(show 1 ≤ sizeLine by decide), _, rfl, (fun z => nomatch z), (show 1 ≤ 1000 by decide), by omega, by omega, ?_⟩
  rw [Int.toNat_natCast, rep0]
  refine ⟨keyOk_lot (List.replicate n 0), ⟨_, rfl⟩, ?_⟩
  refine ⟨_, rfl, ?_⟩
  show forGo _ _ _ (roads.map rdD) _
  have h0 : RowsOk n 0 [List.replicate n 0] := ⟨Nat.le_refl _, fun r hr => by rw [List.mem_singleton] at hr; rw [hr, List.length_replicate]⟩
  refine for_foldW rdD (fun (s : Nat × List (List Int)) η => RowsOk n s.1 s.2 ∧ ∃ a b c d e, η = [.fz (frD n roads), .fz (ksD (.int 0) s.2), a, b, c, d, e]) (fun s p => (s.1 + 1, Out.step s.2 p)) (fun s => s.1) (fun _ => 1) (fun s x => Nat.le_refl _) (B := 12) roads (0, [List.replicate n 0]) _ ⟨h0, .un, .un, .un, .un, .un, rfl⟩ (by rw [sum_one]; simpa using hl) (fun p hp s η hI hB Kc hK => ?_) (fun η hI => ?_)
  · obtain ⟨ok, a, b, c, d, e, rfl⟩ := hI
    have hB' : s.1 + 1 ≤ 12 := hB
    have big : s.2.length ≤ 4096 := Nat.le_trans ok.len (Nat.le_trans (Nat.pow_le_pow_right (by decide) (show s.1 ≤ 12 by omega)) (by decide))
    have gp := hg p hp
    refine ⟨rfl, ?_⟩
    show forGo _ _ _ ((s.2.map (ksE (.int 0))).map (·.1)) _
    rw [ks_keys]
    refine for_foldW lotD (fun late η => ∃ d e, η = [.fz (frD n roads), .fz (ksD (.int 0) s.2), .fz (.int p.1), .fz (.int p.2), .ow (ksD (.int 0) late), d, e]) (step1 p.1 p.2) List.length (fun _ => 2) (step1_len p.1 p.2) (B := 10000) s.2 [] _ ⟨d, e, rfl⟩ (by rw [sum_const]; show 0 + _ ≤ _; omega) (fun r hr late η hI hB2 Kc2 hK2 => ?_) (fun η hI => ?_)
    · obtain ⟨d, e, rfl⟩ := hI
      have hr' := ok.each r hr
      refine ⟨(show 2 ≤ sizeLine by decide), ?_⟩
      show forGo _ _ _ ([p.1, p.2].map PyData.int) _
      refine for_foldW PyData.int (fun late η => ∃ e, η = [.fz (frD n roads), .fz (ksD (.int 0) s.2), .fz (.int p.1), .fz (.int p.2), .ow (ksD (.int 0) late), .fz (lotD r), e]) (fun late c => addK late (inc r c 1)) List.length (fun _ => 1) (fun late c => addK_len late _) (B := 10002) [p.1, p.2] late _ ⟨e, rfl⟩ (by show late.length + 2 ≤ _; omega) (fun c hc late' η hI hB3 Kc3 hK3 => ?_) (fun η hI => ?_)
      · obtain ⟨e, rfl⟩ := hI
        have hcb : 0 ≤ c ∧ c < n := by
          rcases List.mem_cons.mp hc with rfl | hc
          · exact gp.1
          · rw [List.mem_singleton] at hc
            rw [hc]; exact gp.2
        obtain ⟨k, rfl⟩ : ∃ k : Nat, c = k := ⟨c.toNat, by omega⟩
        have hk : k < r.length := by omega
        have t1 : W2.cutD (r.map PyData.int) none (some (k : Int)) = (r.take k).map .int := cutT r k
        have t2 : W2.cutD (r.map PyData.int) (some ((k : Int) + 1)) none = (r.drop (k + 1)).map .int := cutDr PyData.int r (k + 1)
        have key : PyData.tuple (W2.cutD (r.map PyData.int) none (some (k : Int)) ++ [.int (at_ r k + 1)] ++ W2.cutD (r.map PyData.int) (some ((k : Int) + 1)) none) = lotD (inc r k 1) := by
          rw [t1, t2]
          unfold lotD inc
          rw [Int.toNat_natCast, ← set_cut r k hk (at_ r k + 1), List.map_append, List.map_append]
          rfl
        refine ix_row (r := r) (.inl rfl) (by omega) (by omega) ?_
        refine ⟨(show 1 ≤ sizeLine by decide), ?_, ?_, ?_⟩
        · rw [t1, List.length_map, List.length_take, sizeLine_eq]
          show _ + 1 ≤ _
          omega
        · rw [t2, t1, List.length_append, List.length_map, List.length_map, List.length_take, List.length_drop, sizeLine_eq]
          show _ + 1 + _ ≤ _
          omega
        · rw [key]
          exact put_ks (by omega) (hK3 _ ⟨_, rfl⟩)
      · obtain ⟨e, rfl⟩ := hI
        exact hK2 _ ⟨_, _, rfl⟩
    · obtain ⟨d, e, rfl⟩ := hI
      exact hK _ ⟨rows_step (p := p) ok, _, _, _, _, _, rfl⟩
  · have fin : ∀ (l : List (Int × Int)) (s : Nat × List (List Int)), (l.foldl (fun s p => (s.1 + 1, Out.step s.2 p)) s).2 = l.foldl Out.step s.2 := by
      intro l
      induction l with
      | nil => intro s; rfl
      | cons p l ih => intro s; rw [List.foldl_cons, List.foldl_cons, ih]
    obtain ⟨_, a, b, c, d, e, rfl⟩ := hI
    rw [fin]
    have all := outsK_all n _ roads rfl hg
    have ob := outsK_bound hg hl
    show lcGo _ _ _ _ (((outsK n roads).map (ksE (.int 0))).map (·.1)) [] _
    rw [ks_keys]
    refine lc_fm lotD (fun r => some (PyData.tuple [lotD (hd0 r), .int 0])) (outsK n roads) (fun r hr R hR => ?_) (le_line (by omega)) ?_
    · have lr : r.length ≤ 10 := by rw [((all.2.2 r).mp hr).len]; exact hn
      have key : PyData.tuple ([PyData.int 0] ++ W2.cutD (r.map PyData.int) (some 1) none) = lotD (hd0 r) := by rw [cut1]; rfl
      refine ⟨(show 1 ≤ sizeLine by decide), ?_, ?_⟩
      · rw [cut1, List.length_map, List.length_drop]
        exact le_line (show 1 + _ ≤ _ by omega)
      · refine ⟨(show 2 ≤ sizeLine by decide), ?_⟩
        rw [key]
        exact hR
    · rw [fm_map fun r => PyData.tuple [lotD (hd0 r), .int 0]]
      have e : (outsK n roads).map (fun r => PyData.tuple [lotD (hd0 r), .int 0]) = ((outsK n roads).map hd0).map fun k => PyData.tuple [lotD k, .int 0] := by rw [List.map_map]; rfl
      rw [e]
      refine .inr ⟨_, _, rfl, pairs_lot (.int 0) _, ?_⟩
      have e2 := merge_lot (.int 0) ((outsK n roads).map hd0) []
      rw [addK_all _ [] (by rw [List.nil_append]; exact hd_nodup h1 hg all.1 fun r hr => (all.2.2 r).mp hr), List.nil_append] at e2
      show sortOk ((mergeT _).map (·.1)) = true ∧ Q (.list (sortD ((mergeT _).map (·.1))))
      unfold mergeT
      rw [show ([] : List (W2.D × W2.D)) = ([] : List (List Int)).map (ksE (.int 0)) from rfl, e2, ks_keys]
      refine ⟨sortOk_lot _, ?_⟩
      rw [sortD_lot, pts_K h1 hg]
      exact q
end K33

set_option Elab.async false
set_option linter.all false
set_option maxRecDepth 100000
/-! K33E: free lots walked and counted. -/
namespace K33
open PySem PySem.Spec PyProof.Rows L2 W2 PySem.W Bet Out

def rng (n : Nat) : List Int := (List.range n).map fun i : Nat => (i : Int)
theorem mem_rng {n : Nat} {c : Int} : c ∈ rng n ↔ 0 ≤ c ∧ c < n := by
  unfold rng
  rw [List.mem_map]
  constructor
  · rintro ⟨i, hi, rfl⟩
    have := List.mem_range.mp hi
    omega
  · intro h
    exact ⟨c.toNat, List.mem_range.mpr (by omega), by omega⟩
theorem rng_ss (n : Nat) : SS (rng n) := by
  unfold rng SS
  rw [List.pairwise_map]
  exact List.pairwise_lt_range.imp fun h => by omega
theorem at_roads {roads : List (Int × Int)} {k : Nat} {ab : Int × Int} (h : roads[k]? = some ab) : L2.atI (roads.map rdD) (k : Int) = some (rdD ab) := by
  have hk : k < roads.length := (List.getElem?_eq_some_iff.mp h).1
  unfold L2.atI ixN
  rw [List.length_map, if_pos (by omega), if_pos (by omega)]
  show (roads.map rdD)[(k : Int).toNat]? = _
  rw [Int.toNat_natCast, List.getElem?_map, h]
  rfl
def merge (heads : List Int) (p : Int × Int) : List Int := heads.map fun h => if h = at_ heads p.2 then at_ heads p.1 else h
theorem at_map {l : List Int} {f : Int → Int} {c : Int} (h0 : 0 ≤ c) (h1 : c < l.length) : at_ (l.map f) c = f (at_ l c) := by
  unfold at_
  have hi : c.toNat < l.length := by omega
  rw [List.getD_eq_getElem?_getD, List.getElem?_map, List.getElem?_eq_getElem hi, List.getD_eq_getElem?_getD, List.getElem?_eq_getElem hi]
  rfl
theorem merge_len (h : List Int) (p : Int × Int) : (merge h p).length = h.length := List.length_map _
/-! ### counted -/
def rd (roads : List (Int × Int)) (i : Int) : Int × Int := roads.getD i.toNat (0, 0)
def headsOf (n : Nat) (roads : List (Int × Int)) (L : List Int) : List Int := L.foldl (fun h i => merge h (rd roads i)) (rng n)
def freeB (n : Nat) (roads : List (Int × Int)) (ab : Int × Int) (L : List Int) : Bool := decide (at_ (headsOf n roads L) ab.1 ≠ at_ (headsOf n roads L) ab.2)
def freeS (n : Nat) (roads : List (Int × Int)) : Nat → List (List Int)
  | 0 => [[]]
  | i + 1 => freeS n roads i ++ ((freeS n roads i).filter (freeB n roads (rd roads (i : Nat)))).map (· ++ [((i : Nat) : Int)])
theorem rng_len (n : Nat) : (rng n).length = n := by unfold rng; rw [List.length_map, List.length_range]
theorem fold_heads (roads : List (Int × Int)) : ∀ (L : List Int) (h : List Int), (L.foldl (fun h i => merge h (rd roads i)) h).length = h.length
  | [], h => rfl
  | c :: L, h => by rw [List.foldl_cons, fold_heads roads L, merge_len]
theorem heads_len (n : Nat) (roads : List (Int × Int)) (L : List Int) : (headsOf n roads L).length = n := by unfold headsOf; rw [fold_heads, rng_len]
theorem heads_snoc (n : Nat) (roads : List (Int × Int)) (L : List Int) (i : Int) : headsOf n roads (L ++ [i]) = merge (headsOf n roads L) (rd roads i) := by unfold headsOf; rw [List.foldl_append]; rfl
theorem at_merge {h : List Int} {p : Int × Int} {c : Int} (h0 : 0 ≤ c) (h1 : c < h.length) : at_ (merge h p) c = mg (at_ h) p c := by
  unfold merge
  rw [at_map h0 h1]
  rfl
theorem fcnt_congr {n : Int} : ∀ (p : List (Int × Int)) (h g : Int → Int), Good n p → (∀ c, 0 ≤ c → c < n → h c = g c) → fcnt h p = fcnt g p
  | [], _, _, _, _ => rfl
  | (a, b) :: p, h, g, hp, e => by
    obtain ⟨⟨a1, a2⟩, b1, b2⟩ := hp _ List.mem_cons_self
    have gp := good_tail hp
    unfold fcnt
    show _ + (if h a = h b then 0 else _) = _ + (if g a = g b then 0 else _)
    rw [fcnt_congr p h g gp e, e a a1 a2, e b b1 b2, fcnt_congr p (mg h (a, b)) (mg g (a, b)) gp fun c c0 c1 => ?_]
    unfold mg
    rw [e c c0 c1, e a a1 a2, e b b1 b2]
theorem free_in (n : Nat) (roads : List (Int × Int)) : ∀ (i : Nat) (L : List Int), L ∈ freeS n roads i → L.length ≤ i ∧ ∀ c ∈ L, 0 ≤ c ∧ c < i
  | 0, L, h => by rw [freeS, List.mem_singleton] at h; subst h; exact ⟨Nat.le_refl _, fun c hc => nomatch hc⟩
  | i + 1, L, h => by
    rw [freeS, List.mem_append, List.mem_map] at h
    rcases h with h | ⟨M, h, rfl⟩
    · obtain ⟨h1, h2⟩ := free_in n roads i L h
      exact ⟨by omega, fun c hc => by have := h2 c hc; omega⟩
    · obtain ⟨h1, h2⟩ := free_in n roads i M (List.mem_filter.mp h).1
      refine ⟨by rw [List.length_append]; show M.length + 1 ≤ _; omega, fun c hc => ?_⟩
      rw [List.mem_append, List.mem_singleton] at hc
      rcases hc with hc | hc
      · have := h2 c hc; omega
      · omega
theorem free_len (n : Nat) (roads : List (Int × Int)) : ∀ i, (freeS n roads i).length ≤ 2 ^ i
  | 0 => Nat.le_refl _
  | i + 1 => by
    have := free_len n roads i
    have h2 := List.length_filter_le (freeB n roads (rd roads (i : Nat))) (freeS n roads i)
    rw [freeS, List.length_append, List.length_map, Nat.pow_succ]
    omega
theorem sum_split {α : Type} (f g : α → Nat) (b : α → Bool) : ∀ l : List α, (l.map fun x => f x + if b x = true then g x else 0).sum = (l.map f).sum + ((l.filter b).map g).sum
  | [] => rfl
  | x :: l => by
    rw [List.map_cons, List.sum_cons, sum_split f g b l, List.map_cons, List.sum_cons, List.filter_cons]
    cases b x
    · simp only [Bool.false_eq_true, if_false]; omega
    · simp only [if_true, List.map_cons, List.sum_cons]; omega
theorem free_sum {n : Nat} {roads : List (Int × Int)} (hg : Good n roads) : ∀ i : Nat, i ≤ roads.length → ((freeS n roads i).map fun L => fcnt (at_ (headsOf n roads L)) (roads.drop i)).sum = fcnt (at_ (rng n)) roads
  | 0, _ => by rw [freeS]; simp [headsOf]
  | i + 1, h => by
    rw [← free_sum hg i (by omega)]
    have gi : Good n (roads.drop (i + 1)) := fun x hx => hg x (List.mem_of_mem_drop hx)
    have hd : roads.drop i = rd roads (i : Nat) :: roads.drop (i + 1) := by
      rw [List.drop_eq_getElem_cons (by omega)]
      unfold rd
      rw [Int.toNat_natCast, List.getD_eq_getElem?_getD, List.getElem?_eq_getElem (by omega)]
      rfl
    have gr : Good n [rd roads (i : Nat)] := fun x hx => by
      rw [List.mem_singleton] at hx
      exact hg x (List.mem_of_mem_drop (i := i) (by rw [hd, hx]; exact List.mem_cons_self))
    rw [freeS, List.map_append, List.sum_append, List.map_map]
    have e : ((freeS n roads i).map fun L => fcnt (at_ (headsOf n roads L)) (roads.drop i)) = (freeS n roads i).map fun L => fcnt (at_ (headsOf n roads L)) (roads.drop (i + 1)) + if freeB n roads (rd roads (i : Nat)) L = true then fcnt (at_ (headsOf n roads (L ++ [((i : Nat) : Int)]))) (roads.drop (i + 1)) else 0 := by
      refine List.map_congr_left fun L _ => ?_
      rw [hd]
      rw [fcnt]
      congr 1
      unfold freeB
      by_cases q : at_ (headsOf n roads L) (rd roads (i : Nat)).1 = at_ (headsOf n roads L) (rd roads (i : Nat)).2
      · rw [if_pos q, if_neg (by rw [decide_eq_true_eq]; exact fun z => z q)]
      · rw [if_neg q, if_pos (decide_eq_true q)]
        refine fcnt_congr _ _ _ gi fun c c0 c1 => ?_
        rw [heads_snoc, at_merge c0 (by rw [heads_len]; exact c1)]
    rw [e, sum_split]
    rfl
theorem at_rng {n : Nat} {c : Int} (h0 : 0 ≤ c) (h1 : c < n) : at_ (rng n) c = c := by
  unfold at_ rng
  have hi : c.toNat < n := by omega
  rw [List.getD_eq_getElem?_getD, List.getElem?_map, List.getElem?_range hi]
  show ((c.toNat : Nat) : Int) = c
  omega
theorem free_count {n : Nat} {roads : List (Int × Int)} (hg : Good n roads) : (freeS n roads roads.length).length = cO n roads := by
  have h := free_sum hg roads.length (Nat.le_refl _)
  rw [List.drop_length] at h
  have e : ((freeS n roads roads.length).map fun L => fcnt (at_ (headsOf n roads L)) []) = (freeS n roads roads.length).map fun _ => 1 := rfl
  rw [e, sum_one] at h
  rw [h, fcnt_cO (n := n) roads n (at_ (rng n)) (fun c => c) hg (fun c d c0 c1 d0 d1 => by rw [at_rng c0 c1, at_rng d0 d1]) fun c c0 c1 => ⟨c0, c1⟩]
  congr 1
  simp
end K33

set_option Elab.async false
set_option linter.all false
set_option maxRecDepth 100000
/-! K33F: free lots walked. -/
namespace K33
open PySem PySem.Spec PyProof.Rows L2 W2 PySem.W Bet Out

theorem enum_roads (roads : List (Int × Int)) : (enumD (roads.map rdD)).map PyData.tuple = (List.range roads.length).map fun i : Nat => PyData.tuple [.int (i : Int), rdD (rd roads (i : Nat))] := by
  unfold enumD
  refine List.ext_getElem? fun i => ?_
  rw [List.getElem?_map, List.getElem?_map, List.getElem?_zipIdx, List.getElem?_map, List.getElem?_map]
  by_cases h : i < roads.length
  · rw [List.getElem?_eq_getElem h, List.getElem?_range h]
    show some (PyData.tuple [.int ((0 + i : Nat) : Int), rdD roads[i]]) = some (PyData.tuple [.int (i : Int), rdD (roads.getD ((i : Nat) : Int).toNat (0, 0))])
    rw [Nat.zero_add, Int.toNat_natCast, List.getD_eq_getElem?_getD, List.getElem?_eq_getElem h]
    rfl
  · rw [List.getElem?_eq_none (by omega), List.getElem?_eq_none (by rw [List.length_range]; omega)]
    rfl
theorem rd_at {roads : List (Int × Int)} {c : Int} (h0 : 0 ≤ c) (h1 : c < roads.length) : L2.atI (roads.map rdD) c = some (rdD (rd roads c)) := by
  obtain ⟨k, rfl⟩ : ∃ k : Nat, c = k := ⟨c.toNat, by omega⟩
  refine at_roads ?_
  unfold rd
  rw [Int.toNat_natCast, List.getD_eq_getElem?_getD, List.getElem?_eq_getElem (by omega)]
  rfl
theorem rd_good {n : Int} {roads : List (Int × Int)} (hg : Good n roads) {c : Int} (h0 : 0 ≤ c) (h1 : c < roads.length) : (0 ≤ (rd roads c).1 ∧ (rd roads c).1 < n) ∧ 0 ≤ (rd roads c).2 ∧ (rd roads c).2 < n := by
  refine hg _ ?_
  unfold rd
  rw [List.getD_eq_getElem?_getD, List.getElem?_eq_getElem (by omega)]
  exact List.getElem_mem _
def wf_free : WF := fun ds Q => ∃ (n : Nat) (roads : List (Int × Int)), ds = [frD n roads] ∧ 1 ≤ n ∧ n ≤ 10 ∧ roads.length ≤ 10 ∧ Good n roads ∧ ∀ ls : List (List Int), ls.length = cO n roads → Q (.list (ls.map lotD))
theorem fold_filter (b : List Int → Bool) (i : Int) : ∀ (l s : List (List Int)), l.foldl (fun s L => if b L = true then s ++ [L ++ [i]] else s) s = s ++ (l.filter b).map (· ++ [i])
  | [], s => (List.append_nil _).symm
  | L :: l, s => by
    rw [List.foldl_cons, fold_filter b i l, List.filter_cons]
    cases b L
    · simp
    · simp
theorem hw_free (ds : List W2.D) (Q : W2.D → Prop) (_ : ds.length = 1) (h : wf_free ds Q) : wb__law_free_lots { nx := fun _ => Q .none, rt := Q } (startE ["frame", "found", "road", "a", "b", "late", "lot", "heads", "one", "x", "y", "head"] (ds.map .fz)) := by
  obtain ⟨n, roads, rfl, h1, hn, hl, hg, q⟩ := h
  refine ⟨Nat.zero_le _, (show 1 ≤ sizeLine by decide), ?_⟩
  refine ⟨_, rfl, ?_⟩
  show forGo _ _ _ ((enumD (roads.map rdD)).map PyData.tuple) _
  rw [enum_roads]
  refine for_ix _ (fun i η => ∃ c2 c3 c4 c5 c6 c7 c8 c9 c10 c11, η = [.fz (frD n roads), .fz (.list ((freeS n roads i).map lotD)), c2, c3, c4, c5, c6, c7, c8, c9, c10, c11]) (fun i hi η hI Kc hK => ?_) (fun η hI => ?_) ⟨.un, .un, .un, .un, .un, .un, .un, .un, .un, .un, rfl⟩
  · obtain ⟨c2, c3, c4, c5, c6, c7, c8, c9, c10, c11, rfl⟩ := hI
    have gi := rd_good hg (c := (i : Int)) (by omega) (by omega)
    have fl : (freeS n roads i).length ≤ 1024 := Nat.le_trans (free_len n roads i) (Nat.le_trans (Nat.pow_le_pow_right (by decide) (show i ≤ 10 by omega)) (by decide))
    refine ⟨rfl, rfl, Nat.zero_le _, ?_⟩
    show forGo _ _ _ ((freeS n roads i).map lotD) [.fz (frD n roads), .fz (.list ((freeS n roads i).map lotD)), .fz (.int i), .fz (.int (rd roads (i : Nat)).1), .fz (.int (rd roads (i : Nat)).2), .ow (.list []), c6, c7, c8, c9, c10, c11]
    refine for_foldW lotD (fun (late : List (List Int)) η => ∃ c6 c7 c8 c9 c10 c11, η = [.fz (frD n roads), .fz (.list ((freeS n roads i).map lotD)), .fz (.int i), .fz (.int (rd roads (i : Nat)).1), .fz (.int (rd roads (i : Nat)).2), .ow (.list (late.map lotD)), c6, c7, c8, c9, c10, c11])
      (fun s L => if freeB n roads (rd roads (i : Nat)) L = true then s ++ [L ++ [(i : Int)]] else s) List.length (fun _ => 1) (fun s L => by split; · rw [List.length_append]; exact Nat.le_refl _
                                                                                                                                              · omega) (B := 2000) (freeS n roads i) [] _ ⟨_, _, _, _, _, _, rfl⟩ (by rw [sum_one]; show 0 + _ ≤ _; omega) (fun L hL late η hI hB Kc2 hK2 => ?_) (fun η hI => ?_)
    · obtain ⟨c6, c7, c8, c9, c10, c11, rfl⟩ := hI
      obtain ⟨Ll, Lc⟩ := free_in n roads i L hL
      have lg : late.length + 1 ≤ 2000 := hB
      refine ⟨_, rfl, ⟨by omega, by omega, by omega, by omega, by omega⟩, ?_⟩
      have er : PyData.list (rangeD 0 ((n : Int) - 0).toNat) = liD (rng n) := by
        unfold rng liD
        rw [List.map_map, show ((n : Int) - 0).toNat = n by omega, rangeD0]
        rfl
      rw [er]
      show forGo _ _ _ (L.map PyData.int) [.fz (frD n roads), .fz (.list ((freeS n roads i).map lotD)), .fz (.int i), .fz (.int (rd roads (i : Nat)).1), .fz (.int (rd roads (i : Nat)).2), .ow (.list (late.map lotD)), .fz (lotD L), .fz (liD (rng n)), c8, c9, c10, c11]
      refine for_fold PyData.int (fun (h : List Int) η => h.length = n ∧ ∃ c8 c9 c10 c11, η = [.fz (frD n roads), .fz (.list ((freeS n roads i).map lotD)), .fz (.int i), .fz (.int (rd roads (i : Nat)).1), .fz (.int (rd roads (i : Nat)).2), .ow (.list (late.map lotD)), .fz (lotD L), .fz (liD h), c8, c9, c10, c11])
        (fun h c => merge h (rd roads c)) L (rng n) _ ⟨rng_len n, _, _, _, _, rfl⟩ (fun c hc h η hI Kc3 hK3 => ?_) (fun η hI => ?_)
      · obtain ⟨lh, c8, c9, c10, c11, rfl⟩ := hI
        obtain ⟨c0, c1⟩ := Lc c hc
        have gp := rd_good hg c0 (by omega)
        have ea := rd_at (roads := roads) c0 (by omega)
        refine ⟨_, rfl, _, ea, _, rfl, ?_⟩
        refine ix_row (r := h) (.inr rfl) gp.1.1 (by rw [lh]; exact gp.1.2) ?_
        refine ⟨_, rfl, _, ea, _, rfl, ?_⟩
        refine ix_row (r := h) (.inr rfl) gp.2.1 (by rw [lh]; exact gp.2.2) ?_
        refine ⟨rfl, ?_⟩
        show lcGo _ _ _ [.fz (frD n roads), .fz (.list ((freeS n roads i).map lotD)), .fz (.int i), .fz (.int (rd roads (i : Nat)).1), .fz (.int (rd roads (i : Nat)).2), .ow (.list (late.map lotD)), .fz (lotD L), .fz (liD h), .fz (.int c), .fz (.int (at_ h (rd roads c).1)), .fz (.int (at_ h (rd roads c).2)), .un] (h.map PyData.int) [] _
        refine lc_fm PyData.int (fun z => some (.int (if z = at_ h (rd roads c).2 then at_ h (rd roads c).1 else z))) h (fun z hz R hR => ?_) (le_line (by omega)) ?_
        · refine ⟨eqOk_of rfl rfl, ?_⟩
          show (if (z == at_ h (rd roads c).2) = true then R (some (.int (at_ h (rd roads c).1))) else R (some (.int z)))
          by_cases e : z = at_ h (rd roads c).2
          · rw [if_pos e] at hR
            rw [if_pos (beq_iff_eq.mpr e)]
            exact hR
          · rw [if_neg e] at hR
            rw [if_neg (by rw [beq_iff_eq]; exact e)]
            exact hR
        · have em : h.filterMap (fun z => some (PyData.int (if z = at_ h (rd roads c).2 then at_ h (rd roads c).1 else z))) = (merge h (rd roads c)).map PyData.int := by
            unfold merge
            rw [List.map_map]
            exact congrFun List.filterMap_eq_map _
          rw [em]
          exact hK3 _ ⟨by rw [merge_len, lh], _, _, _, _, rfl⟩
      · obtain ⟨_, c8, c9, c10, c11, rfl⟩ := hI
        have hh := heads_len n roads L
        refine ix_row (r := headsOf n roads L) (.inr rfl) gi.1.1 (by rw [hh]; exact gi.1.2) ?_
        refine ix_row (r := headsOf n roads L) (.inr rfl) gi.2.1 (by rw [hh]; exact gi.2.2) ?_
        refine ⟨eqOk_of rfl rfl, ?_⟩
        show (if (!(at_ (headsOf n roads L) (rd roads (i : Nat)).1 == at_ (headsOf n roads L) (rd roads (i : Nat)).2)) = true then _ else _)
        by_cases e : at_ (headsOf n roads L) (rd roads (i : Nat)).1 = at_ (headsOf n roads L) (rd roads (i : Nat)).2
        · rw [if_neg (by rw [Bool.not_eq_true', beq_eq_false_iff_ne]; exact fun z => z e)]
          have fb : freeB n roads (rd roads (i : Nat)) L = false := decide_eq_false fun z => z e
          rw [fb] at hK2
          exact hK2 _ ⟨_, _, _, _, _, _, rfl⟩
        · rw [if_pos (by rw [Bool.not_eq_true', beq_eq_false_iff_ne]; exact e)]
          have fb : freeB n roads (rd roads (i : Nat)) L = true := decide_eq_true e
          rw [fb] at hK2
          refine ⟨rfl, (show 1 ≤ sizeLine by decide), ?_, ?_, ?_⟩
          · show (L.map PyData.int).length + 1 ≤ sizeLine
            rw [List.length_map]; exact le_line (by omega)
          · show (late.map lotD).length < sizeLine
            rw [List.length_map, sizeLine_eq]; omega
          · have ex : late.map lotD ++ [PyData.tuple (L.map PyData.int ++ [.int (i : Int)])] = (late ++ [L ++ [(i : Int)]]).map lotD := by
              rw [List.map_append]
              unfold lotD
              rw [List.map_cons, List.map_append]
              rfl
            show Kc2 [.fz (frD n roads), .fz (.list ((freeS n roads i).map lotD)), .fz (.int i), .fz (.int (rd roads (i : Nat)).1), .fz (.int (rd roads (i : Nat)).2), .ow (.list (late.map lotD ++ [PyData.tuple (L.map PyData.int ++ [.int (i : Int)])])), .fz (lotD L), .fz (liD (headsOf n roads L)), c8, c9, c10, c11]
            rw [ex]
            exact hK2 _ ⟨_, _, _, _, _, _, rfl⟩
    · obtain ⟨c6, c7, c8, c9, c10, c11, rfl⟩ := hI
      rw [fold_filter, List.nil_append]
      have fl2 := List.length_filter_le (freeB n roads (rd roads (i : Nat))) (freeS n roads i)
      refine ⟨?_, ?_⟩
      · rw [List.length_map, List.length_map, List.length_map]
        exact le_line (by omega)
      · rw [← List.map_append]
        exact hK _ ⟨_, _, _, _, _, _, _, _, _, _, rfl⟩
  · obtain ⟨c2, c3, c4, c5, c6, c7, c8, c9, c10, c11, rfl⟩ := hI
    exact q _ (free_count hg)
end K33

set_option Elab.async false
set_option linter.all false
set_option maxRecDepth 100000
/-! K33G: lots of crossings, roads within and cut, walked; outs of heights; ends. -/
namespace K33
open PySem PySem.Spec PyProof.Rows L2 W2 PySem.W Bet Out

def wf_within : WF := fun ds Q => ∃ (n : Int) (roads : List (Int × Int)) (L : List Int) (d : W2.D), ds = [frD n roads, d] ∧ IsRow d L ∧ roads.length ≤ 1000 ∧ Q (.int (cnt roads (memb L)))
theorem hw_within (ds : List W2.D) (Q : W2.D → Prop) (_ : ds.length = 2) (h : wf_within ds Q) : wb__law_within { nx := fun _ => Q .none, rt := Q } (startE ["frame", "lot", "a", "b"] (ds.map .fz)) := by
  obtain ⟨n, roads, L, d, rfl, hd, hl, q⟩ := h
  refine ⟨.tuple (roads.map rdD), rfl, ?_⟩
  show lcGo _ _ _ _ (roads.map rdD) [] _
  refine lc_fm rdD (fun p => if Bet.isIn (memb L) p = true then some (.int 1) else none) roads (fun p hp R hR => ?_) (le_line (by omega)) ?_
  · refine ⟨rfl, in_row hd ?_⟩
    unfold Bet.isIn Out.memb at hR
    show (if decide (p.1 ∈ L) = true then _ else R none)
    cases q1 : decide (p.1 ∈ L) with
    | false => simp only [q1] at hR; exact hR
    | true =>
      simp only [q1, Bool.true_and] at hR
      rw [if_pos rfl]
      refine in_row hd ?_
      show (if decide (p.2 ∈ L) = true then R (some (.int 1)) else R none)
      cases q2 : decide (p.2 ∈ L) with
      | false => simp only [q2] at hR; exact hR
      | true => simp only [q2] at hR; exact hR
  · rw [filterMap_some]
    show Q (.int (((roads.filter (Bet.isIn (memb L))).map fun _ => PyData.int 1).length : Nat))
    rw [List.length_map]
    exact q
def wf_cut : WF := fun ds Q => ∃ (n : Int) (roads : List (Int × Int)) (L : List Int) (d : W2.D), ds = [frD n roads, d] ∧ IsRow d L ∧ roads.length ≤ 1000 ∧ Q (.int (cutc roads (memb L)))
theorem hw_cut (ds : List W2.D) (Q : W2.D → Prop) (_ : ds.length = 2) (h : wf_cut ds Q) : wb__law_cut { nx := fun _ => Q .none, rt := Q } (startE ["frame", "lot", "a", "b"] (ds.map .fz)) := by
  obtain ⟨n, roads, L, d, rfl, hd, hl, q⟩ := h
  refine ⟨.tuple (roads.map rdD), rfl, ?_⟩
  show lcGo _ _ _ _ (roads.map rdD) [] _
  refine lc_fm rdD (fun p => if (memb L p.1 != memb L p.2) = true then some (.int 1) else none) roads (fun p hp R hR => ?_) (le_line (by omega)) ?_
  · refine ⟨rfl, in_row hd ?_⟩
    refine in_row hd ?_
    refine ⟨eqOk_of rfl rfl, ?_⟩
    unfold Out.memb at hR
    show (if (!(PyData.eqv (.bool (decide (p.1 ∈ L))) (.bool (decide (p.2 ∈ L))))) = true then R (some (.int 1)) else R none)
    cases q1 : decide (p.1 ∈ L) <;> cases q2 : decide (p.2 ∈ L) <;> simp only [q1, q2] at hR <;> exact hR
  · rw [filterMap_some]
    show Q (.int (((roads.filter fun p => memb L p.1 != memb L p.2).map fun _ => PyData.int 1).length : Nat))
    rw [List.length_map]
    exact q
/-! ### lots -/
theorem lotsV_short (j : Nat) : ∀ L ∈ lotsV j, L.length ≤ j := by
  induction j with
  | zero => intro L h; rw [lotsV, List.mem_singleton] at h; rw [h]; exact Nat.le_refl _
  | succ j ih =>
    intro L h
    rw [lotsV, List.mem_append, List.mem_map] at h
    rcases h with h | ⟨M, h, rfl⟩
    · exact Nat.le_trans (ih L h) (Nat.le_succ _)
    · rw [List.length_append]; exact Nat.succ_le_succ (ih M h)
theorem lotsV_nil (j : Nat) : [] ∈ lotsV j := by
  induction j with
  | zero => exact List.mem_singleton.mpr rfl
  | succ j ih => rw [lotsV]; exact List.mem_append.mpr (.inl ih)
theorem nil_le (L : List Int) : leL [] L = true := by rw [leL_is]; exact decide_eq_true (List.nil_le L)
theorem lotsD_ok {n : Nat} (hn : 1 ≤ n) : LotsOk n (((lotsV (n - 1)).mergeSort leL).drop 1) := by
  refine ⟨fun L hL => ?_, fun L hL ne => ?_⟩
  · have h := (List.mergeSort_perm _ _).mem_iff.mp (List.mem_of_mem_drop hL)
    obtain ⟨h1, h2⟩ := lotsV_in (n - 1) L h
    exact ⟨h1, fun c hc => by have := h2 c hc; omega⟩
  · have hm := (List.mergeSort_perm (lotsV (n - 1)) leL).mem_iff.mpr hL
    have hnil := (List.mergeSort_perm (lotsV (n - 1)) leL).mem_iff.mpr (lotsV_nil (n - 1))
    have pw : ((lotsV (n - 1)).mergeSort leL).Pairwise fun a b => leL a b = true := List.pairwise_mergeSort leL_total.trans (fun a b => by have := leL_total.total a b; simpa using this) _
    generalize (lotsV (n - 1)).mergeSort leL = S at hm hnil pw
    cases S with
    | nil => cases hm
    | cons x t =>
      rw [List.drop_succ_cons, List.drop_zero]
      rcases List.mem_cons.mp hm with e | h
      · exfalso
        rcases List.mem_cons.mp hnil with e2 | h2
        · exact ne (e.trans e2.symm)
        · have := (List.pairwise_cons.mp pw).1 _ h2
          rw [← e] at this
          exact ne (leL_anti this (nil_le L))
      · exact h
def wf_lots1 : WF := fun ds Q => ∃ n : Nat, ds = [.int n] ∧ 1 ≤ n ∧ n ≤ 10 ∧ ∀ ls : List (List Int), LotsOk n ls → ls.length ≤ 1024 → (∀ L ∈ ls, L.length ≤ 10) → Q (.list (ls.map lotD))
theorem hw_lots1 (ds : List W2.D) (Q : W2.D → Prop) (_ : ds.length = 1) (h : wf_lots1 ds Q) : wb__law_lots { nx := fun _ => Q .none, rt := Q } (startE ["n", "found", "crossing", "lot"] (ds.map .fz)) := by
  obtain ⟨n, rfl, h1, hn, q⟩ := h
  refine ⟨Nat.zero_le _, (show 1 ≤ sizeLine by decide), ⟨by omega, by omega, by omega, by omega⟩, ?_⟩
  show forGo _ _ _ ((List.range ((n : Int) - 1).toNat).map fun i => .int (1 + (i : Nat))) _
  rw [show ((n : Int) - 1).toNat = n - 1 by omega]
  refine for_ix _ (fun i η => ∃ a b, η = [.fz (.int n), .fz (.list ((lotsV i).map lotD)), a, b]) (fun i hi η hI Kc hK => ?_) (fun η hI => ?_) ⟨.un, .un, rfl⟩
  · obtain ⟨a, b, rfl⟩ := hI
    have hp : (lotsV i).length ≤ 1024 := by
      rw [lotsV_len]
      exact Nat.le_trans (Nat.pow_le_pow_right (by decide) (show i ≤ 10 by omega)) (by decide)
    show lcGo _ _ _ _ ((lotsV i).map lotD) [] _
    refine lc_fm lotD (fun l => some (lotD (l ++ [((i + 1 : Nat) : Int)]))) (lotsV i) (fun l hl R hR => ?_) (le_line (by omega)) ?_
    · refine ⟨(show 1 ≤ sizeLine by decide), ?_, ?_⟩
      · show (l.map PyData.int).length + 1 ≤ sizeLine
        have := lotsV_short i l hl
        rw [List.length_map]
        exact le_line (by omega)
      · show R (some (.tuple (l.map PyData.int ++ [.int (1 + (i : Int))])))
        have e : lotD (l ++ [((i + 1 : Nat) : Int)]) = .tuple (l.map PyData.int ++ [.int (1 + (i : Int))]) := by
          unfold lotD
          rw [List.map_append, show ((i + 1 : Nat) : Int) = 1 + (i : Int) by omega]
          rfl
        rw [← e]
        exact hR
    · rw [fm_map fun l => lotD (l ++ [((i + 1 : Nat) : Int)])]
      have e : (lotsV i).map (fun l => lotD (l ++ [((i + 1 : Nat) : Int)])) = ((lotsV i).map fun l => l ++ [((i + 1 : Nat) : Int)]).map lotD := by rw [List.map_map]; rfl
      rw [e]
      refine ⟨?_, ?_⟩
      · rw [List.length_map, List.length_map, List.length_map]
        exact le_line (by omega)
      · rw [← List.map_append]
        exact hK _ ⟨_, _, rfl⟩
  · obtain ⟨a, b, rfl⟩ := hI
    refine ⟨layAll_map lay_lot _, sortOk_lot _, ?_⟩
    rw [sortD_lot]
    show Q (.list (W2.cutD (((lotsV (n - 1)).mergeSort leL).map lotD) (some 1) none))
    have ec : W2.cutD (((lotsV (n - 1)).mergeSort leL).map lotD) (some 1) none = (((lotsV (n - 1)).mergeSort leL).drop 1).map lotD := cutDr lotD _ 1
    rw [ec]
    refine q _ (lotsD_ok h1) ?_ fun L hL => ?_
    · rw [List.length_drop, List.length_mergeSort, lotsV_len]
      exact Nat.le_trans (Nat.sub_le _ _) (Nat.le_trans (Nat.pow_le_pow_right (by decide) (show n - 1 ≤ 10 by omega)) (by decide))
    · have := lotsV_short _ L ((List.mergeSort_perm _ _).mem_iff.mp (List.mem_of_mem_drop hL))
      omega
/-! ### outs of heights -/
def wf_outsH : WF := fun ds Q => ∃ (n : Int) (roads : List (Int × Int)) (k : List Int), ds = [frD n roads, lotD k] ∧ k.length ≤ 1000 ∧ roads.length ≤ 1000 ∧ Q (lotD (((roads.length : Int) - (k.drop 1).sum) :: k.drop 1))
theorem hw_outsH (ds : List W2.D) (Q : W2.D → Prop) (_ : ds.length = 2) (h : wf_outsH ds Q) : wb_outs_of_heights { nx := fun _ => Q .none, rt := Q } (startE ["frame", "heights"] (ds.map .fz)) := by
  obtain ⟨n, roads, k, rfl, hk, hl, q⟩ := h
  refine ⟨_, rfl, ?_⟩
  refine ⟨k.drop 1, by rw [cut1]; exact intsOf_map _, ?_⟩
  show (PyData.int (((roads.map rdD).length : Nat) - (k.drop 1).sum) :: (W2.cutD (k.map PyData.int) (some 1) none ++ [])).length ≤ sizeLine ∧ Q (.tuple (PyData.int (((roads.map rdD).length : Nat) - (k.drop 1).sum) :: (W2.cutD (k.map PyData.int) (some 1) none ++ [])))
  rw [cut1, List.append_nil, List.length_map]
  refine ⟨le_line ?_, q⟩
  rw [List.length_cons, List.length_map, List.length_drop]
  omega
/-! ### ends of roads -/
theorem in_rd {c : Int} {p : Int × Int} {P : W2.D → Prop} (h : P (.bool (decide (c = p.1) || decide (c = p.2)))) : gInA false (.int c) (rdD p) P := by
  show gInA false (.int c) (lotD [p.1, p.2]) P
  refine in_lot ?_
  show P (.bool (decide (c ∈ [p.1, p.2])))
  have e : decide (c ∈ [p.1, p.2]) = (decide (c = p.1) || decide (c = p.2)) := by simp
  rw [e]
  exact h
def wf_ends : WF := fun ds Q => ∃ (n : Nat) (roads : List (Int × Int)), ds = [frD n roads] ∧ 1 ≤ n ∧ n ≤ 1000 ∧ roads.length ≤ 1000 ∧ Q (lotD (endsL n roads))
theorem hw_ends (ds : List W2.D) (Q : W2.D → Prop) (_ : ds.length = 1) (h : wf_ends ds Q) : wb_road_ends { nx := fun _ => Q .none, rt := Q } (startE ["frame", "crossing", "road"] (ds.map .fz)) := by
  obtain ⟨n, roads, rfl, h1, hn, hl, q⟩ := h
  refine ⟨_, rfl, ⟨by omega, by omega, by omega, by omega⟩, ?_⟩
  show lcGo _ _ _ _ ((List.range ((n : Int) - 1).toNat).map fun i => .int (1 + (i : Nat))) [] _
  rw [show ((n : Int) - 1).toNat = n - 1 by omega]
  refine lc_fm (fun i : Nat => PyData.int (1 + (i : Int))) (fun i => some (.int (deg roads ((i : Int) + 1)))) (List.range (n - 1)) (fun i hi R hR => ?_) (le_line (by rw [List.length_range]; omega)) ?_
  · refine ⟨_, rfl, ?_⟩
    show lcGo _ _ _ [.fz (frD n roads), .fz (.int (1 + (i : Int))), .un] (roads.map rdD) [] _
    refine lc_fm rdD (fun p => if (decide ((i : Int) + 1 = p.1) || decide ((i : Int) + 1 = p.2)) = true then some (rdD p) else none) roads (fun p hp R2 hR2 => ?_) (le_line (by omega)) ?_
    · show gInA false (.int (1 + (i : Int))) (rdD p) (fun d => match d with | .bool k => (if k = true then R2 (some (rdD p)) else R2 none) | _ => False)
      refine in_lot (x := 1 + (i : Int)) (l := [p.1, p.2]) ?_
      have e2 : decide (1 + (i : Int) ∈ [p.1, p.2]) = (decide ((i : Int) + 1 = p.1) || decide ((i : Int) + 1 = p.2)) := by rw [Int.add_comm 1]; simp
      rw [e2]
      show (if (decide ((i : Int) + 1 = p.1) || decide ((i : Int) + 1 = p.2)) = true then R2 (some (rdD p)) else R2 none)
      cases q1 : (decide ((i : Int) + 1 = p.1) || decide ((i : Int) + 1 = p.2)) with
      | false => rw [q1] at hR2; exact hR2
      | true => rw [q1] at hR2; exact hR2
    · rw [filterMap_some]
      show R (some (.int (((roads.filter fun p => decide ((i : Int) + 1 = p.1) || decide ((i : Int) + 1 = p.2)).map rdD).length : Nat)))
      rw [List.length_map]
      exact hR
  · rw [fm_map fun i : Nat => PyData.int (deg roads ((i : Int) + 1))]
    have e : (PyData.int 0 :: ((List.range (n - 1)).map (fun i : Nat => PyData.int (deg roads ((i : Int) + 1))) ++ [])) = (endsL n roads).map PyData.int := by
      unfold endsL
      rw [List.append_nil, List.map_cons, List.map_map]
      rfl
    show (PyData.int 0 :: ((List.range (n - 1)).map (fun i : Nat => PyData.int (deg roads ((i : Int) + 1))) ++ [])).length ≤ sizeLine ∧ Q (.tuple (PyData.int 0 :: ((List.range (n - 1)).map (fun i : Nat => PyData.int (deg roads ((i : Int) + 1))) ++ [])))
    rw [e]
    exact ⟨le_line (by rw [List.length_map, endsL_len h1]; omega), q⟩
end K33

set_option Elab.async false
set_option linter.all false
set_option maxRecDepth 100000
/-! K33H: worths walked, twice. -/
namespace K33
open PySem PySem.Spec PyProof.Rows L2 W2 PySem.W Bet Out

def rises (k : List Int) : List Int := (k.drop 1).map fun x => x - at_ k 0
def mulq (a : Int) (q : Int × Int) : Int := a * q.1 ^ q.2.toNat
def term (p : LI) (rs : List Int) : Int := (List.zip rs p.1).foldl mulq p.2
def worth (poly : List LI) (k : List Int) : Int := poly.foldl (fun t p => t + term p (rises k)) 0
structure PolyOk (m : Nat) (poly : List LI) : Prop where
  few : poly.length ≤ 1000
  len : ∀ p ∈ poly, p.1.length = m
  nn : ∀ p ∈ poly, ∀ x ∈ p.1, 0 ≤ x
  deg : ∀ p ∈ poly, p.1.sum ≤ 4
  num : ∀ p ∈ poly, p.2.natAbs ≤ 5
structure HtOk (m : Nat) (k : List Int) : Prop where
  len : k.length = m + 1
  few : m ≤ 100
  small : ∀ x ∈ k, x.natAbs ≤ 10
theorem at_mem {k : List Int} (h : 0 < k.length) : at_ k 0 ∈ k := by
  unfold at_
  rw [List.getD_eq_getElem?_getD, List.getElem?_eq_getElem (by simpa using h)]
  exact List.getElem_mem _
theorem HtOk.rise {m : Nat} {k : List Int} (h : HtOk m k) : (rises k).length = m ∧ ∀ x ∈ rises k, x.natAbs ≤ 20 := by
  refine ⟨by unfold rises; rw [List.length_map, List.length_drop, h.len]; omega, fun x hx => ?_⟩
  obtain ⟨y, hy, rfl⟩ := List.mem_map.mp hx
  have h1 := h.small y (List.mem_of_mem_drop hy)
  have h2 := h.small _ (at_mem (k := k) (by rw [h.len]; omega))
  omega
theorem zip_rd : ∀ (a b : List Int), (zipD (a.map PyData.int) (b.map PyData.int)).map PyData.tuple = (List.zip a b).map rdD
  | [], _ => rfl
  | _ :: _, [] => rfl
  | x :: a, y :: b => by
    have ih := zip_rd a b
    unfold zipD at ih ⊢
    rw [List.map_cons, List.map_cons, List.zipWith_cons_cons, List.map_cons, ih]
    rfl
theorem zip_sum : ∀ (a b : List Int), (∀ x ∈ b, 0 ≤ x) → ((List.zip a b).map fun q => q.2.toNat).sum ≤ b.sum.toNat
  | [], b, _ => Nat.zero_le _
  | _ :: _, [], _ => Nat.zero_le _
  | x :: a, y :: b, h => by
    have ih := zip_sum a b fun z hz => h z (List.mem_cons_of_mem _ hz)
    have h0 := h y List.mem_cons_self
    have hb : 0 ≤ b.sum := by
      have : ∀ l : List Int, (∀ x ∈ l, 0 ≤ x) → 0 ≤ l.sum := by
        intro l
        induction l with
        | nil => intro _; exact Int.le_refl _
        | cons z l ih => intro h; rw [List.sum_cons]; have := h z List.mem_cons_self; have := ih fun w hw => h w (List.mem_cons_of_mem _ hw); omega
      exact this b fun z hz => h z (List.mem_cons_of_mem _ hz)
    rw [List.zip_cons_cons, List.map_cons, List.sum_cons, List.sum_cons]
    show y.toNat + _ ≤ _
    omega
/-- bits of a number that has been multiplied j times -/
def Bd (j : Nat) (a : Int) : Prop := a.natAbs < 2 ^ (3 + 5 * j)
theorem Bd.mul {j : Nat} {a r : Int} (h : Bd j a) (hr : r.natAbs ≤ 20) : Bd (j + 1) (a * r) := by
  have := wide_lt h (show r.natAbs < 2 ^ 5 by omega)
  unfold Bd
  rw [show 3 + 5 * (j + 1) = 3 + 5 * j + 5 by omega]
  exact this
theorem Bd.pow {j : Nat} {a r : Int} (h : Bd j a) (hr : r.natAbs ≤ 20) : ∀ i : Nat, Bd (j + i) (a * r ^ i)
  | 0 => by rw [Int.pow_zero, Int.mul_one]; exact h
  | i + 1 => by
    rw [Int.pow_succ, ← Int.mul_assoc]
    exact (Bd.pow h hr i).mul hr
theorem Bd.ok {j : Nat} {a r : Int} (h : Bd j a) (hr : r.natAbs ≤ 20) (hj : j ≤ 1000) : CMulW a r := wide_mul h (show r.natAbs < 2 ^ 5 by omega) (by omega) (by omega) (by omega)
theorem term_fin : ∀ (l : List (Int × Int)) (s : Nat × Int), (l.foldl (fun s q => (s.1 + q.2.toNat, mulq s.2 q)) s).2 = l.foldl mulq s.2
  | [], s => rfl
  | q :: l, s => by rw [List.foldl_cons, List.foldl_cons, term_fin l]
def wf_worth : WF := fun ds Q => ∃ (m : Nat) (poly : List LI) (k : List Int), ds = [rsD poly, lotD k] ∧ PolyOk m poly ∧ HtOk m k ∧ Q (.int (worth poly k))
theorem hw_worth (ds : List W2.D) (Q : W2.D → Prop) (_ : ds.length = 2) (h : wf_worth ds Q) : wb_worth_of { nx := fun _ => Q .none, rt := Q } (startE ["poly", "heights", "total", "rises", "powers", "number", "rise", "power", "lap", "height"] (ds.map .fz)) := by
  obtain ⟨m, poly, k, rfl, po, ht, q⟩ := h
  obtain ⟨rl, rb⟩ := ht.rise
  show lcGo _ _ _ [.fz (rsD poly), .fz (lotD k), .un, .un, .un, .un, .un, .un, .un, .un] (W2.cutD (k.map PyData.int) (some 1) none) [] _
  rw [cut1]
  refine lc_fm PyData.int (fun x => some (.int (x - at_ k 0))) (k.drop 1) (fun x hx R hR => ?_) (le_line (by rw [List.length_drop, ht.len]; have := ht.few; omega)) ?_
  · refine ix_row (r := k) (.inl rfl) (Int.le_refl 0) (by rw [ht.len]; omega) ?_
    exact hR
  rw [fm_map fun x => PyData.int (x - at_ k 0)]
  have e : (k.drop 1).map (fun x => PyData.int (x - at_ k 0)) = (rises k).map PyData.int := by unfold rises; rw [List.map_map]; rfl
  rw [e]
  refine ⟨rfl, ?_⟩
  show forGo _ _ _ (poly.map W2.prD) [.fz (rsD poly), .fz (lotD k), .fz (.int 0), .fz (liD (rises k)), .un, .un, .un, .un, .un, .un]
  refine for_fold W2.prD (fun (t : Int) η => ∃ c4 c5 c6 c7 c8 c9, η = [.fz (rsD poly), .fz (lotD k), .fz (.int t), .fz (liD (rises k)), c4, c5, c6, c7, c8, c9]) (fun t p => t + term p (rises k)) poly 0 _ ⟨_, _, _, _, _, _, rfl⟩ (fun p hp t η hI Kc hK => ?_) (fun η hI => ?_)
  · obtain ⟨c4, c5, c6, c7, c8, c9, rfl⟩ := hI
    have pl := po.len p hp
    refine ⟨rfl, (fun _ => by show (((rises k).map PyData.int).length = (p.1.map PyData.int).length); rw [List.length_map, List.length_map, rl, pl]), ?_⟩
    show forGo _ _ _ ((zipD ((rises k).map PyData.int) (p.1.map PyData.int)).map PyData.tuple) [.fz (rsD poly), .fz (lotD k), .fz (.int t), .fz (liD (rises k)), .fz (lotD p.1), .fz (.int p.2), c6, c7, c8, c9]
    rw [zip_rd]
    have zs := zip_sum (rises k) p.1 (po.nn p hp)
    have dg := po.deg p hp
    refine for_foldW rdD (fun (s : Nat × Int) η => Bd s.1 s.2 ∧ ∃ c6 c7 c8 c9, η = [.fz (rsD poly), .fz (lotD k), .fz (.int t), .fz (liD (rises k)), .fz (lotD p.1), .fz (.int s.2), c6, c7, c8, c9])
      (fun s q => (s.1 + q.2.toNat, mulq s.2 q)) (fun s => s.1) (fun q => q.2.toNat) (fun s x => Nat.le_refl _) (B := 4) (List.zip (rises k) p.1) (0, p.2) _ ⟨by have := po.num p hp; show p.2.natAbs < 2 ^ 3; omega, _, _, _, _, rfl⟩ (by show 0 + _ ≤ 4; omega) (fun x hx s η hI hB Kc2 hK2 => ?_) (fun η hI => ?_)
    · obtain ⟨bd, c6, c7, c8, c9, rfl⟩ := hI
      have hx1 : x.1.natAbs ≤ 20 := rb x.1 (List.of_mem_zip (a := x.1) (b := x.2) hx).1
      have hx2 : 0 ≤ x.2 := po.nn p hp x.2 (List.of_mem_zip (a := x.1) (b := x.2) hx).2
      have hB' : s.1 + x.2.toNat ≤ 4 := hB
      refine ⟨rfl, ⟨by omega, by omega⟩, ?_⟩
      show forGo _ _ _ ((List.range x.2.toNat).map fun i => .int (0 + (i : Nat))) _
      refine for_ix _ (fun i η => ∃ c8, η = [.fz (rsD poly), .fz (lotD k), .fz (.int t), .fz (liD (rises k)), .fz (lotD p.1), .fz (.int (s.2 * x.1 ^ i)), .fz (.int x.1), .fz (.int x.2), c8, c9]) (fun i hi η hI Kc3 hK3 => ?_) (fun η hI => ?_) ⟨c8, by rw [Int.pow_zero, Int.mul_one]; rfl⟩
      · obtain ⟨c8, rfl⟩ := hI
        refine ⟨(bd.pow hx1 i).ok hx1 (by omega), ?_⟩
        refine hK3 _ ⟨.fz (.int (0 + (i : Int))), ?_⟩
        rw [Int.pow_succ, ← Int.mul_assoc]
        rfl
      · obtain ⟨c8, rfl⟩ := hI
        exact hK2 _ ⟨bd.pow hx1 _, _, _, _, _, rfl⟩
    · obtain ⟨_, c6, c7, c8, c9, rfl⟩ := hI
      rw [term_fin]
      exact hK _ ⟨_, _, _, _, _, _, rfl⟩
  · obtain ⟨c4, c5, c6, c7, c8, c9, rfl⟩ := hI
    exact q
end K33

set_option Elab.async false
set_option linter.all false
set_option maxRecDepth 100000
/-! K33I: worths as the law reckons them; polynomials drawn. -/
namespace K33
open PySem PySem.Spec PyProof.Rows L2 W2 PySem.W Bet Out

theorem rise_at {m : Nat} {k : List Int} (h : HtOk m k) {i : Nat} (hi : i < m) : (rises k)[i]? = some (at_ k ((i : Int) + 1) - at_ k 0) := by
  unfold rises
  have lt : i + 1 < k.length := by rw [h.len]; omega
  rw [List.getElem?_map, List.getElem?_drop, show 1 + i = i + 1 by omega, List.getElem?_eq_getElem lt]
  have e : at_ k ((i : Int) + 1) = k[i + 1] := by
    unfold at_
    rw [show ((i : Int) + 1).toNat = i + 1 by omega, List.getD_eq_getElem?_getD, List.getElem?_eq_getElem lt]
    rfl
  rw [e]
  rfl
theorem fold_bd : ∀ (l : List (Int × Int)) (j : Nat) (a : Int), (∀ q ∈ l, q.1.natAbs ≤ 20) → Bd j a → Bd (j + (l.map fun q => q.2.toNat).sum) (l.foldl mulq a)
  | [], j, a, _, h => h
  | q :: l, j, a, hl, h => by
    have h1 := h.pow (hl q List.mem_cons_self) q.2.toNat
    have ih := fold_bd l (j + q.2.toNat) _ (fun z hz => hl z (List.mem_cons_of_mem _ hz)) h1
    rw [List.foldl_cons, List.map_cons, List.sum_cons, ← Nat.add_assoc]
    exact ih
theorem take_sum (l : List (Int × Int)) : ∀ i, ((l.take i).map fun q => q.2.toNat).sum ≤ (l.map fun q => q.2.toNat).sum := by
  induction l with
  | nil => intro i; simp
  | cons q l ih =>
    intro i
    cases i with
    | zero => simp
    | succ i =>
      rw [List.take_succ_cons, List.map_cons, List.sum_cons, List.map_cons, List.sum_cons]
      have := ih i
      omega
theorem hw_lworth (ds : List W2.D) (Q : W2.D → Prop) (_ : ds.length = 2) (h : wf_worth ds Q) : wb__law_worth { nx := fun _ => Q .none, rt := Q } (startE ["poly", "heights", "total", "powers", "number", "c", "lap"] (ds.map .fz)) := by
  obtain ⟨m, poly, k, rfl, po, ht, q⟩ := h
  obtain ⟨rl, rb⟩ := ht.rise
  have kl := ht.len
  have mf := ht.few
  show forGo _ _ _ (poly.map W2.prD) [.fz (rsD poly), .fz (lotD k), .fz (.int 0), .un, .un, .un, .un]
  refine for_fold W2.prD (fun (t : Int) η => ∃ c3 c4 c5 c6, η = [.fz (rsD poly), .fz (lotD k), .fz (.int t), c3, c4, c5, c6]) (fun t p => t + term p (rises k)) poly 0 _ ⟨_, _, _, _, rfl⟩ (fun p hp t η hI Kc hK => ?_) (fun η hI => ?_)
  · obtain ⟨c3, c4, c5, c6, rfl⟩ := hI
    have pl := po.len p hp
    have zs := zip_sum (rises k) p.1 (po.nn p hp)
    have dg := po.deg p hp
    have zm : ∀ x ∈ List.zip (rises k) p.1, x.1.natAbs ≤ 20 := fun x hx => rb x.1 (List.of_mem_zip (a := x.1) (b := x.2) hx).1
    have b0 : Bd 0 p.2 := by have := po.num p hp; show p.2.natAbs < 2 ^ 3; omega
    have zl : (List.zip (rises k) p.1).length = m := by rw [List.length_zip, rl, pl, Nat.min_self]
    refine ⟨rfl, ⟨by show -(2 : Int) ^ 62 ≤ (((p.1.map PyData.int).length : Nat) : Int); omega, by show (((p.1.map PyData.int).length : Nat) : Int) < (2 : Int) ^ 62; rw [List.length_map]; omega⟩, ?_⟩
    show forGo _ _ _ ((List.range (((p.1.map PyData.int).length : Nat) : Int).toNat).map fun i => .int (0 + (i : Nat))) _
    rw [List.length_map, Int.toNat_natCast, pl]
    refine for_ix _ (fun i η => ∃ c5 c6, η = [.fz (rsD poly), .fz (lotD k), .fz (.int t), .fz (lotD p.1), .fz (.int (((List.zip (rises k) p.1).take i).foldl mulq p.2)), c5, c6]) (fun i hi η hI Kc2 hK2 => ?_) (fun η hI => ?_) ⟨_, _, rfl⟩
    · obtain ⟨c5, c6, rfl⟩ := hI
      have hip : i < p.1.length := by omega
      have ea : at_ p.1 (i : Int) = p.1[i] := by
        unfold at_
        rw [Int.toNat_natCast, List.getD_eq_getElem?_getD, List.getElem?_eq_getElem hip]
        rfl
      have nn : 0 ≤ at_ p.1 (i : Int) := by rw [ea]; exact po.nn p hp _ (List.getElem_mem _)
      have er := rise_at ht hi
      have ez : (List.zip (rises k) p.1)[i]? = some (at_ k ((i : Int) + 1) - at_ k 0, at_ p.1 (i : Int)) := by
        rw [List.getElem?_zip_eq_some]
        exact ⟨er, by rw [ea]; exact List.getElem?_eq_getElem hip⟩
      have rs20 := zm _ (List.mem_of_getElem? ez)
      have et : (List.zip (rises k) p.1).take (i + 1) = (List.zip (rises k) p.1).take i ++ [(at_ k ((i : Int) + 1) - at_ k 0, at_ p.1 (i : Int))] := by
        rw [List.take_add_one, ez]
        rfl
      have bp := fold_bd ((List.zip (rises k) p.1).take i) 0 p.2 (fun x hx => zm x (List.mem_of_mem_take hx)) b0
      have bt := take_sum (List.zip (rises k) p.1) (i + 1)
      rw [et, List.map_append, List.sum_append] at bt
      simp only [List.map_cons, List.map_nil, List.sum_cons, List.sum_nil] at bt
      have e0 : (0 : Int) + (i : Int) = i := by omega
      refine ix_row (r := p.1) (c := 0 + (i : Int)) (.inl rfl) (by omega) (by omega) ?_
      rw [e0]
      refine ⟨⟨by omega, by omega⟩, ?_⟩
      show forGo _ _ _ ((List.range (at_ p.1 (i : Int)).toNat).map fun i => .int (0 + (i : Nat))) _
      refine for_ix _ (fun j η => ∃ c6, η = [.fz (rsD poly), .fz (lotD k), .fz (.int t), .fz (lotD p.1), .fz (.int ((((List.zip (rises k) p.1).take i).foldl mulq p.2) * (at_ k ((i : Int) + 1) - at_ k 0) ^ j)), .fz (.int (i : Int)), c6]) (fun j hj η hI Kc3 hK3 => ?_) (fun η hI => ?_) ⟨c6, by rw [Int.pow_zero, Int.mul_one]; rfl⟩
      · obtain ⟨c6, rfl⟩ := hI
        refine ix_row (r := k) (c := (i : Int) + 1) (.inl rfl) (by omega) (by omega) ?_
        refine ix_row (r := k) (.inl rfl) (Int.le_refl 0) (by omega) ?_
        refine ⟨(bp.pow rs20 j).ok rs20 (by omega), ?_⟩
        refine hK3 _ ⟨.fz (.int (0 + (j : Int))), ?_⟩
        rw [Int.pow_succ, ← Int.mul_assoc]
        rfl
      · obtain ⟨c6, rfl⟩ := hI
        refine hK2 _ ⟨.fz (.int (i : Int)), c6, ?_⟩
        rw [et, List.foldl_append]
        rfl
    · obtain ⟨c5, c6, rfl⟩ := hI
      rw [List.take_of_length_le (by omega)]
      exact hK _ ⟨_, _, _, _, rfl⟩
  · obtain ⟨c3, c4, c5, c6, rfl⟩ := hI
    exact q
/-! ### values at points -/
def wf_values : WF := fun ds Q => ∃ (m : Nat) (ps : List (List Int)) (poly : List LI), ds = [.tuple (ps.map lotD), rsD poly] ∧ ps.length ≤ 100000 ∧ PolyOk m poly ∧ (∀ k ∈ ps, HtOk m k) ∧ Q (lotD (ps.map (worth poly)))
theorem hw_values (ds : List W2.D) (Q : W2.D → Prop) (_ : ds.length = 2) (h : wf_values ds Q) : wb_values_at wf_worth { nx := fun _ => Q .none, rt := Q } (startE ["points", "poly", "heights"] (ds.map .fz)) := by
  obtain ⟨m, ps, poly, rfl, hl, po, hk, q⟩ := h
  show lcGo _ _ _ [.fz (.tuple (ps.map lotD)), .fz (rsD poly), .un] (ps.map lotD) [] _
  refine lc_fm lotD (fun k => some (.int (worth poly k))) ps (fun k hk' R hR => ⟨rfl, m, poly, k, rfl, po, hk k hk', hR⟩) (le_line (by omega)) ?_
  rw [fm_map fun k => PyData.int (worth poly k)]
  have e : lotD (ps.map (worth poly)) = .tuple (ps.map fun k => PyData.int (worth poly k)) := by unfold lotD; rw [List.map_map]; rfl
  rw [e] at q
  exact q
/-! ### polynomials drawn -/
def wf_told : WF := fun ds Q => ∃ m, ds = [mpD m] ∧ Keys m ∧ m.length ≤ 1000000 ∧ Q (rsD (told m))
theorem hw_told (ds : List W2.D) (Q : W2.D → Prop) (_ : ds.length = 1) (h : wf_told ds Q) : wb__law_told { nx := fun _ => Q .none, rt := Q } (startE ["numbers", "powers"] (ds.map .fz)) := by
  obtain ⟨m, rfl, hk, hl, q⟩ := h
  have ek : (m.map mpE).map (·.1) = (m.map (·.1)).map lotD := by rw [List.map_map, List.map_map]; rfl
  have get : ∀ k, k ∈ m.map (·.1) → ∀ P : W2.D → Prop, P (.int (val m k)) → gIxA (mpD m) (lotD k) P := fun k hk P hP => by
    refine ⟨keyOk_lot k, kindOk_mp m k, .int (val m k), ?_, hP⟩
    have e := dGet_val m k
    rw [dGet_mp] at e ⊢
    obtain ⟨p, hp, e1⟩ := List.mem_map.mp hk
    cases q : m.find? fun p => decide (p.1 = k) with
    | none => exact absurd (decide_eq_true e1) (List.find?_eq_none.mp q p hp)
    | some r => rw [q] at e; exact congrArg some e
  show lcGo _ _ _ _ ((m.map mpE).map (·.1)) [] _
  rw [ek]
  refine lc_fm lotD (fun k => if decide (val m k ≠ 0) = true then some (W2.prD (k, val m k)) else none) _ (fun k hk' R hR => ?_) (le_line (by rw [List.length_map]; exact hl)) ?_
  · refine get k hk' _ ⟨rfl, ?_⟩
    show (if (!(val m k == 0)) = true then _ else R none)
    by_cases c : val m k = 0
    · rw [if_neg (by simp [c])]
      rw [if_neg (by simp [c])] at hR
      exact hR
    · rw [if_pos (by simp [c])]
      rw [if_pos (by simp [c])] at hR
      exact get k hk' _ ⟨(show 2 ≤ sizeLine by decide), hR⟩
  · have e2 : (m.map (·.1)).filterMap (fun k => if decide (val m k ≠ 0) = true then some (W2.prD (k, val m k)) else none) = (nz m).map W2.prD := by
      rw [← nz_keys (m := m) (r := m) fun p hp => val_mem hk hp]
      generalize m.map (·.1) = l
      induction l with
      | nil => rfl
      | cons x r ih =>
        rw [List.filterMap_cons, List.filterMap_cons]
        by_cases c : val m x = 0
        · rw [if_neg (by simp [c]), if_neg (fun z => z c)]; exact ih
        · rw [if_pos (by simp [c]), if_pos c, List.map_cons, ih]
    rw [e2]
    refine ⟨layAll_map lay_pr _, sortOk_pr _, ?_⟩
    rw [sortD_pr]
    exact q
theorem mem_put {m : List LI} {k : List Int} {v : Int} {p : LI} (h : p ∈ put m k v) : p = (k, v) ∨ p ∈ m := by
  unfold put at h
  split at h
  · obtain ⟨q, hq, e⟩ := List.mem_map.mp h
    split at e
    · rename_i c; exact .inl (by rw [← e, c])
    · exact .inr (by rw [← e]; exact hq)
  · rcases List.mem_append.mp h with h | h
    · exact .inr h
    · exact .inl (List.mem_singleton.mp h)
structure Pw (m : Nat) (p : LI) : Prop where
  len : p.1.length = m
  nn : ∀ x ∈ p.1, 0 ≤ x
  deg : p.1.sum ≤ 4
  num : p.2.natAbs ≤ 5
def wf_any : WF := fun ds Q => ∃ m : Nat, ds = [.int ((m : Int) + 1), .int 4] ∧ 1 ≤ m ∧ m ≤ 100 ∧ ∀ poly, PolyOk m poly → poly.length ≤ 3 → Q (rsD poly)
theorem hw_any (ds : List W2.D) (Q : W2.D → Prop) (_ : ds.length = 2) (h : wf_any ds Q) : wb__law_any wf_told { nx := fun _ => Q .none, rt := Q } (startE ["source", "n", "degree", "found", "lap", "powers", "step", "c"] (.src :: ds.map .fz)) := by
  obtain ⟨m, rfl, h1, hm, q⟩ := h
  refine ⟨rfl, by decide, fun r r0 r1 => ?_⟩
  refine ⟨⟨by omega, by omega⟩, ?_⟩
  show forGo _ _ _ ((List.range (1 + r).toNat).map fun i => .int (0 + (i : Nat))) [.src, .fz (.int ((m : Int) + 1)), .fz (.int 4), .ow (.dict []), .un, .un, .un, .un]
  have r3 : (1 + r).toNat ≤ 3 := by omega
  refine for_ix _ (fun i η => ∃ (s : List LI) (c4 c5 c6 c7 : Slot), Keys s ∧ s.length ≤ i ∧ (∀ p ∈ s, Pw m p) ∧ η = [.src, .fz (.int ((m : Int) + 1)), .fz (.int 4), .ow (mpD s), c4, c5, c6, c7]) (fun i hi η hI Kc hK => ?_) (fun η hI => ?_) ⟨[], .un, .un, .un, .un, List.nodup_nil, Nat.le_refl _, (fun _ h => nomatch h), rfl⟩
  · obtain ⟨s, c4, c5, c6, c7, sk, sl, sp, rfl⟩ := hI
    refine ⟨(show 1 ≤ sizeLine by decide), ?_⟩
    have em : ((m : Int) + 1 - 1).toNat = m := by omega
    refine ⟨(show 1 ≤ 1000 by decide), by omega, by omega, ?_⟩
    rw [em, rep0]
    refine ⟨rfl, by omega, fun t t0 t1 => ?_⟩
    refine ⟨⟨by omega, by omega⟩, ?_⟩
    show forGo _ _ _ ((List.range t.toNat).map fun i => .int (0 + (i : Nat))) [.src, .fz (.int ((m : Int) + 1)), .fz (.int 4), .ow (mpD s), .fz (.int (0 + (i : Int))), .ow (liD (List.replicate m 0)), c6, c7]
    refine for_ix _ (fun j η => ∃ (u : List Int) (c6 c7 : Slot), u.length = m ∧ (∀ x ∈ u, 0 ≤ x) ∧ u.sum = j ∧ η = [.src, .fz (.int ((m : Int) + 1)), .fz (.int 4), .ow (mpD s), .fz (.int (0 + (i : Int))), .ow (liD u), c6, c7]) (fun j hj η hI Kc2 hK2 => ?_) (fun η hI => ?_) ⟨List.replicate m 0, c6, c7, List.length_replicate, (fun x hx => by rw [List.eq_of_mem_replicate hx]; exact Int.le_refl _), (by rw [← Sm_true]; exact smO_zero _ _ _), rfl⟩
    · obtain ⟨u, c6, c7, ul, un, us, rfl⟩ := hI
      refine ⟨rfl, by omega, fun c c0 c1 => ?_⟩
      have cm : c < (u.length : Int) := by rw [ul]; omega
      refine ix_row (r := u) (.inr rfl) c0 cm ?_
      refine ⟨c.toNat, ?_, ?_⟩
      · unfold ixN
        rw [List.length_map, if_pos c0, if_pos (by omega)]
      · have e : ((u.map PyData.int).set c.toNat (.int (at_ u c + 1))) = (inc u c 1).map PyData.int := by unfold inc; rw [List.map_set]
        rw [e]
        refine hK2 _ ⟨inc u c 1, _, _, by rw [inc_len, ul], fun x hx => ?_, by rw [sum_inc c0 cm, us]; omega, rfl⟩
        rcases List.mem_or_eq_of_mem_set hx with h | h
        · exact un x h
        · have : 0 ≤ at_ u c := by
            unfold at_
            rw [List.getD_eq_getElem?_getD, List.getElem?_eq_getElem (by omega)]
            exact un _ (List.getElem_mem _)
          omega
    · obtain ⟨u, c6, c7, ul, un, us, rfl⟩ := hI
      refine ⟨(show 5 ≤ sizeLine by decide), rfl, (fun z => nomatch z), (show 5 < 1073741824 by decide), fun v hv => ?_⟩
      have hv' : ∃ y : Int, v = .int y ∧ y.natAbs ≤ 5 := by
        simp only [List.mem_cons, List.not_mem_nil, or_false] at hv
        rcases hv with rfl | rfl | rfl | rfl | rfl
        · exact ⟨1, rfl, by decide⟩
        · exact ⟨-1, rfl, by decide⟩
        · exact ⟨2, rfl, by decide⟩
        · exact ⟨-3, rfl, by decide⟩
        · exact ⟨5, rfl, by decide⟩
      obtain ⟨y, rfl, hy⟩ := hv'
      refine ⟨keyOk_lot u, kindOk_mp s u, by rw [List.length_map, sizeLine_eq]; omega, ?_⟩
      have ep : dPut (s.map mpE) (lotD u) (.int y) = (put s u y).map mpE := dPut_mp s u y
      refine hK _ ⟨put s u y, .fz (.int (0 + (i : Int))), .ow (liD u), c6, c7, put_keys sk, ?_, fun p hp => ?_, ?_⟩
      · have := put_length s u y; omega
      · rcases mem_put hp with e | h
        · rw [e]; exact ⟨ul, un, by show u.sum ≤ 4; omega, hy⟩
        · exact sp p h
      · rw [show mpD (put s u y) = .dict (dPut (s.map mpE) (lotD u) (.int y)) from (congrArg PyData.dict ep).symm]
        rfl
  · obtain ⟨s, c4, c5, c6, c7, sk, sl, sp, rfl⟩ := hI
    refine ⟨rfl, s, rfl, sk, by omega, ?_⟩
    have mt : ∀ p ∈ told s, Pw m p := fun p hp => sp p (mem_told.mp hp).1
    have tl : (told s).length ≤ 3 := by
      have : (told s).length ≤ s.length := by
        rw [(told_perm s).length_eq]
        exact List.length_filter_le _ _
      omega
    exact q _ ⟨by omega, fun p hp => (mt p hp).len, fun p hp => (mt p hp).nn, fun p hp => (mt p hp).deg, fun p hp => (mt p hp).num⟩ tl
end K33

set_option Elab.async false
set_option linter.all false
set_option maxRecDepth 100000
/-! K33J: the frame drawn. -/
namespace K33
open PySem PySem.Spec PyProof.Rows L2 W2 PySem.W Bet Out

structure FrOk (n : Int) (s : List (Int × Int)) : Prop where
  good : Good n s
  apart : ∀ q ∈ s, q.1 ≠ q.2
theorem FrOk.snoc {n : Int} {s : List (Int × Int)} {a b : Int} (h : FrOk n s) (ha : 0 ≤ a ∧ a < n) (hb : 0 ≤ b ∧ b < n) (ne : a ≠ b) : FrOk n (s ++ [(a, b)]) :=
  ⟨good_snoc h.good ha hb, fun q hq => by
    rcases List.mem_append.mp hq with h1 | h1
    · exact h.apart q h1
    · rw [List.mem_singleton] at h1; rw [h1]; exact ne⟩
theorem tree_out {n : Int} : ∀ {t : List Nat} {os : List (Option W2.D)}, Paired (fun (i : Nat) o => ∃ x : Int, 0 ≤ x ∧ x < 1 + (i : Int) ∧ o = some (rdD (x, 1 + (i : Int)))) t os → (∀ i ∈ t, 1 + (i : Int) < n) → ∃ u : List (Int × Int), os.filterMap id = u.map rdD ∧ u.length = t.length ∧ FrOk n u
  | _, _, .nil, _ => ⟨[], rfl, rfl, (fun _ h => by cases h), fun _ h => by cases h⟩
  | _, _, .cons (a := i) h r, hn => by
    obtain ⟨u, h1, h2, h3⟩ := tree_out r fun j hj => hn j (List.mem_cons_of_mem _ hj)
    obtain ⟨x, x0, x1, rfl⟩ := h
    have hi := hn i List.mem_cons_self
    refine ⟨(x, 1 + (i : Int)) :: u, ?_, by rw [List.length_cons, List.length_cons, h2], fun q hq => ?_, fun q hq => ?_⟩
    · rw [List.filterMap_cons]; show rdD (x, 1 + (i : Int)) :: _ = _; rw [h1, List.map_cons]
    · rcases List.mem_cons.mp hq with e | e
      · subst e; exact ⟨⟨x0, by show x < n; omega⟩, by show (0 : Int) ≤ 1 + (i : Int); omega, hi⟩
      · exact h3.good q e
    · rcases List.mem_cons.mp hq with e | e
      · subst e; show x ≠ 1 + (i : Int); omega
      · exact h3.apart q e
def Turn2 (u : List (Int × Int)) (p : Int × Int) (u' : List (Int × Int)) : Prop := u' = u ++ [p] ∨ u' = u ++ [(p.2, p.1)]
theorem turn_all {n : Int} : ∀ {t u u' : List (Int × Int)}, Steps Turn2 u t u' → FrOk n t → FrOk n u → FrOk n u' ∧ u'.length = u.length + t.length
  | _, _, _, .nil, _, hu => ⟨hu, rfl⟩
  | _, _, _, .cons (x := p) (r := r) h st, ht, hu => by
    obtain ⟨⟨a1, a2⟩, b1, b2⟩ := ht.good p List.mem_cons_self
    have ne := ht.apart p List.mem_cons_self
    have hr : FrOk n r := ⟨fun q hq => ht.good q (List.mem_cons_of_mem _ hq), fun q hq => ht.apart q (List.mem_cons_of_mem _ hq)⟩
    rcases h with rfl | rfl
    · obtain ⟨h1, h2⟩ := turn_all st hr (hu.snoc ⟨a1, a2⟩ ⟨b1, b2⟩ ne)
      refine ⟨h1, ?_⟩
      rw [h2, List.length_append, List.length_cons, List.length_cons, List.length_nil]
      omega
    · obtain ⟨h1, h2⟩ := turn_all st hr (hu.snoc ⟨b1, b2⟩ ⟨a1, a2⟩ fun e => ne e.symm)
      refine ⟨h1, ?_⟩
      rw [h2, List.length_append, List.length_cons, List.length_cons, List.length_nil]
      omega
theorem g_add {i j s : Int} {P : W2.D → Prop} (e : i + j = s) (h : P (.int s)) : gAdd (.int i) (.int j) P := by subst e; exact h
theorem for_foldR {α : Type} (e : α → W2.D) (I : List (Int × Int) → En → Prop) {St : List (Int × Int) → α → List (Int × Int) → Prop} (hs : ∀ u x u', St u x u' → u'.length = u.length + 1) {B : Nat} {g : WG} {body : WS} {W : WEnds} : ∀ (xs : List α) (u : List (Int × Int)) (η : En), I u η → u.length + xs.length ≤ B →
    (∀ x ∈ xs, ∀ u η, I u η → u.length + 1 ≤ B → ∀ Kc : En → Prop, (∀ u' η', St u x u' → I u' η' → Kc η') → g (e x) η fun η1 => body { nx := Kc, rt := W.rt, bk := W.nx, ct := Kc } η1) →
    (∀ u' η', Steps St u xs u' → I u' η' → W.nx η') → forGo g body W (xs.map e) η
  | [], u, η, hi, _, _, hend => hend u η .nil hi
  | x :: r, u, η, hi, hB, h, hend => by
    rw [List.length_cons] at hB
    exact h x List.mem_cons_self u η hi (by omega) _ fun u' η' hst hi' => for_foldR e I hs r u' η' hi' (by have := hs _ _ _ hst; omega) (fun y hy => h y (List.mem_cons_of_mem _ hy)) fun u2 η2 h2 hi2 => hend u2 η2 (.cons hst h2) hi2
theorem turn_len (u : List (Int × Int)) (x : Int × Int) (u' : List (Int × Int)) (h : Turn2 u x u') : u'.length = u.length + 1 := by
  rcases h with rfl | rfl <;> (rw [List.length_append]; rfl)
def wf_frame : WF := fun ds Q => ∃ most more : Int, ds = [.int most, .int more] ∧ 2 ≤ most ∧ most ≤ 100 ∧ 0 ≤ more ∧ more ≤ 100 ∧ ∀ (n : Nat) roads, 2 ≤ n → (n : Int) ≤ most → (roads.length : Int) ≤ (n : Int) - 1 + more → FrOk n roads → Q (frD n roads)
theorem hw_frame (ds : List W2.D) (Q : W2.D → Prop) (_ : ds.length = 2) (h : wf_frame ds Q) :
    wb__law_frame { nx := fun _ => Q .none, rt := Q } (startE ["source", "most", "more", "n", "roads", "lap", "turned", "a", "b", "v"] (.src :: ds.map .fz)) := by
  obtain ⟨most, more, rfl, hm1, hm2, hr1, hr2, q⟩ := h
  refine ⟨rfl, by omega, fun r h0 h1 => ?_⟩
  obtain ⟨k, hk⟩ : ∃ k : Nat, r = k := ⟨r.toNat, by omega⟩
  subst hk
  obtain ⟨n, hn⟩ : ∃ n : Nat, (2 : Int) + k = n := ⟨2 + k, by omega⟩
  have n2 : 2 ≤ n := by omega
  have nm : (n : Int) ≤ most := by omega
  refine g_add hn ?_
  refine ⟨⟨by omega, by omega, by omega, by omega⟩, ?_⟩
  show lcGo _ _ _ [.src, .fz (.int most), .fz (.int more), .fz (.int n), .un, .un, .un, .un, .un, .un] ((List.range ((n : Int) - 1).toNat).map fun i => .int (1 + (i : Nat))) [] _
  rw [show ((n : Int) - 1).toNat = n - 1 by omega]
  refine lc_rel (fun i : Nat => PyData.int (1 + (i : Int))) (fun i o => ∃ x : Int, 0 ≤ x ∧ x < 1 + (i : Int) ∧ o = some (rdD (x, 1 + (i : Int)))) (List.range (n - 1)) [] (fun i hi R hR => ?_) (by rw [List.length_range, sizeLine_eq]; show 0 + (n - 1) ≤ _; omega) fun os hos => ?_
  · have hi' := List.mem_range.mp hi
    exact ⟨rfl, by omega, fun x x0 x1 => ⟨(show 2 ≤ sizeLine by decide), hR _ ⟨x, x0, by omega, rfl⟩⟩⟩
  · obtain ⟨s0, es, sl, sg⟩ := tree_out (n := n) hos fun i hi => by have := List.mem_range.mp hi; omega
    rw [List.length_range] at sl
    rw [List.nil_append, es]
    refine ⟨rfl, by omega, fun x x0 x1 => ?_⟩
    refine ⟨⟨by omega, by omega⟩, ?_⟩
    show forGo _ _ _ ((List.range x.toNat).map fun i => .int (0 + (i : Nat))) [.src, .fz (.int most), .fz (.int more), .fz (.int n), .ow (.list (s0.map rdD)), .un, .un, .un, .un, .un]
    refine for_ix _ (fun i η => ∃ (s : List (Int × Int)) (c5 : Slot), s.length = n - 1 + i ∧ FrOk n s ∧ η = [.src, .fz (.int most), .fz (.int more), .fz (.int n), .ow (.list (s.map rdD)), c5, .un, .un, .un, .un]) (fun i hi η hI Kc hK => ?_) (fun η hI => ?_) ⟨s0, .un, by omega, sg, rfl⟩
    · obtain ⟨s, c5, hl, hg, rfl⟩ := hI
      refine ⟨rfl, ⟨by omega, by omega, by omega, by omega, by omega⟩, rfl, ?_, fun ys hp => ?_⟩
      · show (rangeD 0 ((n : Int) - 0).toNat).length < 16777216
        unfold rangeD
        rw [List.length_map, List.length_range]
        omega
      · have er : rangeD 0 ((n : Int) - 0).toNat = (rng n).map PyData.int := by
          unfold rng
          rw [List.map_map, show ((n : Int) - 0).toNat = n by omega, rangeD0]
          rfl
        obtain ⟨vs, hv, rfl⟩ := perm_of_map hp _ er
        have hvl : vs.length = n := by rw [hv.length_eq, rng_len]
        have hvn : vs.Nodup := hv.nodup_iff.mpr (rng_ss n).nodup
        have hvm : ∀ v ∈ vs, 0 ≤ v ∧ v < (n : Int) := fun v h => mem_rng.mp (hv.mem_iff.mp h)
        obtain ⟨a, b, vr, rfl⟩ : ∃ a b vr, vs = a :: b :: vr := by
          match vs, hvl with
          | [], h => simp at h; omega
          | [_], h => simp at h; omega
          | a :: b :: vr, _ => exact ⟨a, b, vr, rfl⟩
        have ne : a ≠ b := fun e => by subst e; simp at hvn
        have ec : W2.cutD ((a :: b :: vr).map PyData.int) none (some 2) = [.int a, .int b] := by
          have := cutT (a :: b :: vr) 2
          exact this
        show (s.map rdD).length < sizeLine ∧ Kc [.src, .fz (.int most), .fz (.int more), .fz (.int n), .ow (.list (s.map rdD ++ [.tuple (W2.cutD ((a :: b :: vr).map PyData.int) none (some 2))])), .fz (.int (0 + (i : Int))), .un, .un, .un, .un]
        rw [ec, rd_snoc]
        exact ⟨by rw [List.length_map, sizeLine_eq]; omega, hK _ ⟨s ++ [(a, b)], _, by rw [List.length_append, hl]; rfl, hg.snoc (hvm a (by simp)) (hvm b (by simp)) ne, rfl⟩⟩
    · obtain ⟨s, c5, hl, hg, rfl⟩ := hI
      refine ⟨Nat.zero_le _, rfl, by show (s.map rdD).length < 16777216; rw [List.length_map]; omega, fun ys hp => ?_⟩
      obtain ⟨t, ht, rfl⟩ := perm_of_map hp s rfl
      have hgt : FrOk n t := ⟨fun p hp => hg.good p (ht.mem_iff.mp hp), fun p hp => hg.apart p (ht.mem_iff.mp hp)⟩
      have htl : t.length = n - 1 + x.toNat := ht.length_eq.trans hl
      show forGo _ _ _ (t.map rdD) [.src, .fz (.int most), .fz (.int more), .fz (.int n), .fz (.list (s.map rdD)), c5, .ow (.list []), .un, .un, .un]
      refine for_foldR (B := 1000) rdD (fun u η => ∃ c7 c8, η = [.src, .fz (.int most), .fz (.int more), .fz (.int n), .fz (.list (s.map rdD)), c5, .ow (.list (u.map rdD)), c7, c8, .un]) turn_len t [] _ ⟨_, _, rfl⟩ (by show 0 + t.length ≤ 1000; omega) (fun p hp u η hI hB Kc hK => ?_) fun u η hst hI => ?_
      · obtain ⟨c7, c8, rfl⟩ := hI
        refine ⟨rfl, rfl, rfl, by decide, fun z z0 z1 => ⟨eqOk_of rfl rfl, ?_⟩⟩
        show (if (z == 0) = true then _ else _)
        have ul : (u.map rdD).length < sizeLine := by rw [List.length_map, sizeLine_eq]; omega
        by_cases cz : (z == 0) = true
        · rw [if_pos cz]
          refine ⟨(show 2 ≤ sizeLine by decide), ul, ?_⟩
          show Kc [.src, .fz (.int most), .fz (.int more), .fz (.int n), .fz (.list (s.map rdD)), c5, .ow (.list (u.map rdD ++ [.tuple [.int p.1, .int p.2]])), .fz (.int p.1), .fz (.int p.2), .un]
          rw [rd_snoc]
          exact hK (u ++ [p]) _ (.inl rfl) ⟨_, _, rfl⟩
        · rw [if_neg cz]
          refine ⟨(show 2 ≤ sizeLine by decide), ul, ?_⟩
          show Kc [.src, .fz (.int most), .fz (.int more), .fz (.int n), .fz (.list (s.map rdD)), c5, .ow (.list (u.map rdD ++ [.tuple [.int p.2, .int p.1]])), .fz (.int p.1), .fz (.int p.2), .un]
          rw [rd_snoc]
          exact hK (u ++ [(p.2, p.1)]) _ (.inr rfl) ⟨_, _, rfl⟩
      · obtain ⟨c7, c8, rfl⟩ := hI
        obtain ⟨gu, ul⟩ := turn_all hst hgt ⟨(fun _ h => by cases h), fun _ h => by cases h⟩
        refine ⟨(show 2 ≤ sizeLine by decide), ?_⟩
        exact q n u n2 nm (by rw [ul, htl]; show ((0 + (n - 1 + x.toNat) : Nat) : Int) ≤ _; omega) gu
end K33

set_option Elab.async false
set_option linter.all false
set_option maxRecDepth 100000
namespace K33
open PySem PySem.Spec PyProof.Rows L2 W2 PySem.W
/-! the pieces of the law's body (printed by split33.py) -/
def rest9 : WS := (wIf (wOrT (wTrB (W2.w2 gNe (wCall gSorted (wCons (wLc (wItems (wN 7)) (wGn 8) (wYes) (wCall gTuple (wCons (wLc (wZip false (wCons (wN 16) (wCons (wN 8) (wNil)))) (wGt 2 (wGcons (wGn 19) (wGcons (wGn 20) (wGnil)))) (wYes) (W2.w2 gSubI (wB 19) (wB 20)) [19, 20]) (wNil))) [8]) (wNil))) (wB 7))) (wTrB (W2.w2 gNe (wCall gRepr (wCons (wB 3) (wNil))) (wB 6)))) (wRet (wC (.bool false))) (wNext))
def rest7 : WS := (wSeq (wAsg (W2.w2 gAdd (wTup (wCons (wC (.int 0)) (wNil))) (wCall gTuple (wCons (wLc (wRng2 (wC (.int 1)) (wB 4)) (wGn 17) (wYes) (wCall gLenX (wCons (wLc (wItems (W2.w2 gIxA (wB 3) (wC (.int 1)))) (wGn 18) (wTrB (W2.w2 (gInA false) (wN 17) (wB 18))) (wC (.int 1)) [18]) (wNil))) [17]) (wNil)))) (wGn 16)) (wSeq (wIf (wTrB (W2.w2 gNe (wCall gRepr (wCons (wFn 1 wf_ends (wCons (wN 3) (wNil))) (wNil))) (wCall gRepr (wCons (wB 16) (wNil))))) (wRet (wC (.bool false))) (wNext)) (wIf (wOrT (wTrB (W2.w2 gNe (wCall gSorted (wCons (wLc (wItems (wN 7)) (wGn 8) (wYes) (wCall gTuple (wCons (wLc (wZip false (wCons (wN 16) (wCons (wN 8) (wNil)))) (wGt 2 (wGcons (wGn 19) (wGcons (wGn 20) (wGnil)))) (wYes) (W2.w2 gSubI (wB 19) (wB 20)) [19, 20]) (wNil))) [8]) (wNil))) (wB 7))) (wTrB (W2.w2 gNe (wCall gRepr (wCons (wB 3) (wNil))) (wB 6)))) (wRet (wC (.bool false))) (wNext))))
def rest5 : WS := (wSeq (wAsg (wFnS 1 2 wf_any (wCons (wN 4) (wCons (wC (.int 4)) (wNil)))) (wGn 15)) (wSeq (wIf (wTrB (W2.w2 gNe (wCall gRepr (wCons (wFn 2 wf_values (wCons (wCall gTuple (wCons (wB 7) (wNil))) (wCons (wN 15) (wNil)))) (wNil))) (wCall gRepr (wCons (wCall gTuple (wCons (wLc (wItems (wN 7)) (wGn 8) (wYes) (wFn 2 wf_worth (wCons (wN 15) (wCons (wN 8) (wNil)))) [8]) (wNil))) (wNil))))) (wRet (wC (.bool false))) (wNext)) (wSeq (wAsg (W2.w2 gAdd (wTup (wCons (wC (.int 0)) (wNil))) (wCall gTuple (wCons (wLc (wRng2 (wC (.int 1)) (wB 4)) (wGn 17) (wYes) (wCall gLenX (wCons (wLc (wItems (W2.w2 gIxA (wB 3) (wC (.int 1)))) (wGn 18) (wTrB (W2.w2 (gInA false) (wN 17) (wB 18))) (wC (.int 1)) [18]) (wNil))) [17]) (wNil)))) (wGn 16)) (wSeq (wIf (wTrB (W2.w2 gNe (wCall gRepr (wCons (wFn 1 wf_ends (wCons (wN 3) (wNil))) (wNil))) (wCall gRepr (wCons (wB 16) (wNil))))) (wRet (wC (.bool false))) (wNext)) (wIf (wOrT (wTrB (W2.w2 gNe (wCall gSorted (wCons (wLc (wItems (wN 7)) (wGn 8) (wYes) (wCall gTuple (wCons (wLc (wZip false (wCons (wN 16) (wCons (wN 8) (wNil)))) (wGt 2 (wGcons (wGn 19) (wGcons (wGn 20) (wGnil)))) (wYes) (W2.w2 gSubI (wB 19) (wB 20)) [19, 20]) (wNil))) [8]) (wNil))) (wB 7))) (wTrB (W2.w2 gNe (wCall gRepr (wCons (wB 3) (wNil))) (wB 6)))) (wRet (wC (.bool false))) (wNext))))))
def rest4 : WS := (wSeq (wFor (wRng1 (wC (.int 6))) (wGn 10) (wSeq (wAsg (W2.w2 gAdd (wTup (wCons (wC (.int 0)) (wNil))) (wCall gTuple (wCons (wLc (wRng2 (wC (.int 1)) (wB 4)) (wGn 17) (wYes) (W2.w2 gSubI (wFnS 1 1 wfPick (wCons (W2.w2 gAdd (wB 5) (wC (.int 2))) (wNil))) (wC (.int 1))) [17]) (wNil)))) (wGn 11)) (wSeq (wAsg (W2.w2 gLeA (wCall gSum (wCons (wB 11) (wNil))) (wB 5)) (wGn 12)) (wSeq (wFor (wItems (wFn 1 wf_lots1 (wCons (wN 4) (wNil)))) (wGn 13) (wSeq (wAsg (wFn 2 wf_within (wCons (wN 3) (wCons (wN 13) (wNil)))) (wGn 14)) (wAsg (wAndV (wN 12) (wChain gLeA gLeA (wB 14) (wCall gSum (wCons (wLc (wItems (wN 13)) (wGn 17) (wYes) (W2.w2 gIxA (wB 11) (wN 17)) [17]) (wNil))) (W2.w2 gAdd (wB 14) (wFn 2 wf_cut (wCons (wN 3) (wCons (wN 13) (wNil))))))) (wGn 12)))) (wIf (wTrB (W2.w2 gNe (wB 12) (W2.w2 (gInA false) (wN 11) (wB 7)))) (wRet (wC (.bool false))) (wNext)))))) (wSeq (wAsg (wFnS 1 2 wf_any (wCons (wN 4) (wCons (wC (.int 4)) (wNil)))) (wGn 15)) (wSeq (wIf (wTrB (W2.w2 gNe (wCall gRepr (wCons (wFn 2 wf_values (wCons (wCall gTuple (wCons (wB 7) (wNil))) (wCons (wN 15) (wNil)))) (wNil))) (wCall gRepr (wCons (wCall gTuple (wCons (wLc (wItems (wN 7)) (wGn 8) (wYes) (wFn 2 wf_worth (wCons (wN 15) (wCons (wN 8) (wNil)))) [8]) (wNil))) (wNil))))) (wRet (wC (.bool false))) (wNext)) (wSeq (wAsg (W2.w2 gAdd (wTup (wCons (wC (.int 0)) (wNil))) (wCall gTuple (wCons (wLc (wRng2 (wC (.int 1)) (wB 4)) (wGn 17) (wYes) (wCall gLenX (wCons (wLc (wItems (W2.w2 gIxA (wB 3) (wC (.int 1)))) (wGn 18) (wTrB (W2.w2 (gInA false) (wN 17) (wB 18))) (wC (.int 1)) [18]) (wNil))) [17]) (wNil)))) (wGn 16)) (wSeq (wIf (wTrB (W2.w2 gNe (wCall gRepr (wCons (wFn 1 wf_ends (wCons (wN 3) (wNil))) (wNil))) (wCall gRepr (wCons (wB 16) (wNil))))) (wRet (wC (.bool false))) (wNext)) (wIf (wOrT (wTrB (W2.w2 gNe (wCall gSorted (wCons (wLc (wItems (wN 7)) (wGn 8) (wYes) (wCall gTuple (wCons (wLc (wZip false (wCons (wN 16) (wCons (wN 8) (wNil)))) (wGt 2 (wGcons (wGn 19) (wGcons (wGn 20) (wGnil)))) (wYes) (W2.w2 gSubI (wB 19) (wB 20)) [19, 20]) (wNil))) [8]) (wNil))) (wB 7))) (wTrB (W2.w2 gNe (wCall gRepr (wCons (wB 3) (wNil))) (wB 6)))) (wRet (wC (.bool false))) (wNext)))))))
def rest3 : WS := (wSeq (wFor (wItems (wSl (wFnS 1 1 wfMixed (wCons (wN 7) (wNil))) (wNoPart) (wPart (wC (.int 4))))) (wGn 8) (wSeq (wAsg (W2.w2 gAdd (wTup (wCons (W2.w2 gSubI (wB 5) (wCall gSum (wCons (wB 8) (wNil)))) (wNil))) (wSl (wB 8) (wPart (wC (.int 1))) (wNoPart))) (wGn 9)) (wIf (wTrB (W2.w2 gNe (wCall gRepr (wCons (wLst (wCons (wFn 1 wf_heights (wCons (wN 9) (wNil))) (wCons (wFn 2 wf_outsH (wCons (wN 3) (wCons (wN 8) (wNil)))) (wNil)))) (wNil))) (wCall gRepr (wCons (wLst (wCons (wN 8) (wCons (wN 9) (wNil)))) (wNil))))) (wRet (wC (.bool false))) (wNext)))) (wSeq (wFor (wRng1 (wC (.int 6))) (wGn 10) (wSeq (wAsg (W2.w2 gAdd (wTup (wCons (wC (.int 0)) (wNil))) (wCall gTuple (wCons (wLc (wRng2 (wC (.int 1)) (wB 4)) (wGn 17) (wYes) (W2.w2 gSubI (wFnS 1 1 wfPick (wCons (W2.w2 gAdd (wB 5) (wC (.int 2))) (wNil))) (wC (.int 1))) [17]) (wNil)))) (wGn 11)) (wSeq (wAsg (W2.w2 gLeA (wCall gSum (wCons (wB 11) (wNil))) (wB 5)) (wGn 12)) (wSeq (wFor (wItems (wFn 1 wf_lots1 (wCons (wN 4) (wNil)))) (wGn 13) (wSeq (wAsg (wFn 2 wf_within (wCons (wN 3) (wCons (wN 13) (wNil)))) (wGn 14)) (wAsg (wAndV (wN 12) (wChain gLeA gLeA (wB 14) (wCall gSum (wCons (wLc (wItems (wN 13)) (wGn 17) (wYes) (W2.w2 gIxA (wB 11) (wN 17)) [17]) (wNil))) (W2.w2 gAdd (wB 14) (wFn 2 wf_cut (wCons (wN 3) (wCons (wN 13) (wNil))))))) (wGn 12)))) (wIf (wTrB (W2.w2 gNe (wB 12) (W2.w2 (gInA false) (wN 11) (wB 7)))) (wRet (wC (.bool false))) (wNext)))))) (wSeq (wAsg (wFnS 1 2 wf_any (wCons (wN 4) (wCons (wC (.int 4)) (wNil)))) (wGn 15)) (wSeq (wIf (wTrB (W2.w2 gNe (wCall gRepr (wCons (wFn 2 wf_values (wCons (wCall gTuple (wCons (wB 7) (wNil))) (wCons (wN 15) (wNil)))) (wNil))) (wCall gRepr (wCons (wCall gTuple (wCons (wLc (wItems (wN 7)) (wGn 8) (wYes) (wFn 2 wf_worth (wCons (wN 15) (wCons (wN 8) (wNil)))) [8]) (wNil))) (wNil))))) (wRet (wC (.bool false))) (wNext)) (wSeq (wAsg (W2.w2 gAdd (wTup (wCons (wC (.int 0)) (wNil))) (wCall gTuple (wCons (wLc (wRng2 (wC (.int 1)) (wB 4)) (wGn 17) (wYes) (wCall gLenX (wCons (wLc (wItems (W2.w2 gIxA (wB 3) (wC (.int 1)))) (wGn 18) (wTrB (W2.w2 (gInA false) (wN 17) (wB 18))) (wC (.int 1)) [18]) (wNil))) [17]) (wNil)))) (wGn 16)) (wSeq (wIf (wTrB (W2.w2 gNe (wCall gRepr (wCons (wFn 1 wf_ends (wCons (wN 3) (wNil))) (wNil))) (wCall gRepr (wCons (wB 16) (wNil))))) (wRet (wC (.bool false))) (wNext)) (wIf (wOrT (wTrB (W2.w2 gNe (wCall gSorted (wCons (wLc (wItems (wN 7)) (wGn 8) (wYes) (wCall gTuple (wCons (wLc (wZip false (wCons (wN 16) (wCons (wN 8) (wNil)))) (wGt 2 (wGcons (wGn 19) (wGcons (wGn 20) (wGnil)))) (wYes) (W2.w2 gSubI (wB 19) (wB 20)) [19, 20]) (wNil))) [8]) (wNil))) (wB 7))) (wTrB (W2.w2 gNe (wCall gRepr (wCons (wB 3) (wNil))) (wB 6)))) (wRet (wC (.bool false))) (wNext))))))))
def rest2 : WS := (wSeq (wIf (wOrT (wTrB (W2.w2 gNe (wCall gRepr (wCons (wFn 1 (wf_points .tuple) (wCons (wN 3) (wNil))) (wNil))) (wCall gRepr (wCons (wCall gTuple (wCons (wB 7) (wNil))) (wNil))))) (wTrB (W2.w2 gNe (wCall gLenX (wCons (wB 7) (wNil))) (wCall gLenX (wCons (wFn 1 wf_free (wCons (wN 3) (wNil))) (wNil)))))) (wRet (wC (.bool false))) (wNext)) (wSeq (wFor (wItems (wSl (wFnS 1 1 wfMixed (wCons (wN 7) (wNil))) (wNoPart) (wPart (wC (.int 4))))) (wGn 8) (wSeq (wAsg (W2.w2 gAdd (wTup (wCons (W2.w2 gSubI (wB 5) (wCall gSum (wCons (wB 8) (wNil)))) (wNil))) (wSl (wB 8) (wPart (wC (.int 1))) (wNoPart))) (wGn 9)) (wIf (wTrB (W2.w2 gNe (wCall gRepr (wCons (wLst (wCons (wFn 1 wf_heights (wCons (wN 9) (wNil))) (wCons (wFn 2 wf_outsH (wCons (wN 3) (wCons (wN 8) (wNil)))) (wNil)))) (wNil))) (wCall gRepr (wCons (wLst (wCons (wN 8) (wCons (wN 9) (wNil)))) (wNil))))) (wRet (wC (.bool false))) (wNext)))) (wSeq (wFor (wRng1 (wC (.int 6))) (wGn 10) (wSeq (wAsg (W2.w2 gAdd (wTup (wCons (wC (.int 0)) (wNil))) (wCall gTuple (wCons (wLc (wRng2 (wC (.int 1)) (wB 4)) (wGn 17) (wYes) (W2.w2 gSubI (wFnS 1 1 wfPick (wCons (W2.w2 gAdd (wB 5) (wC (.int 2))) (wNil))) (wC (.int 1))) [17]) (wNil)))) (wGn 11)) (wSeq (wAsg (W2.w2 gLeA (wCall gSum (wCons (wB 11) (wNil))) (wB 5)) (wGn 12)) (wSeq (wFor (wItems (wFn 1 wf_lots1 (wCons (wN 4) (wNil)))) (wGn 13) (wSeq (wAsg (wFn 2 wf_within (wCons (wN 3) (wCons (wN 13) (wNil)))) (wGn 14)) (wAsg (wAndV (wN 12) (wChain gLeA gLeA (wB 14) (wCall gSum (wCons (wLc (wItems (wN 13)) (wGn 17) (wYes) (W2.w2 gIxA (wB 11) (wN 17)) [17]) (wNil))) (W2.w2 gAdd (wB 14) (wFn 2 wf_cut (wCons (wN 3) (wCons (wN 13) (wNil))))))) (wGn 12)))) (wIf (wTrB (W2.w2 gNe (wB 12) (W2.w2 (gInA false) (wN 11) (wB 7)))) (wRet (wC (.bool false))) (wNext)))))) (wSeq (wAsg (wFnS 1 2 wf_any (wCons (wN 4) (wCons (wC (.int 4)) (wNil)))) (wGn 15)) (wSeq (wIf (wTrB (W2.w2 gNe (wCall gRepr (wCons (wFn 2 wf_values (wCons (wCall gTuple (wCons (wB 7) (wNil))) (wCons (wN 15) (wNil)))) (wNil))) (wCall gRepr (wCons (wCall gTuple (wCons (wLc (wItems (wN 7)) (wGn 8) (wYes) (wFn 2 wf_worth (wCons (wN 15) (wCons (wN 8) (wNil)))) [8]) (wNil))) (wNil))))) (wRet (wC (.bool false))) (wNext)) (wSeq (wAsg (W2.w2 gAdd (wTup (wCons (wC (.int 0)) (wNil))) (wCall gTuple (wCons (wLc (wRng2 (wC (.int 1)) (wB 4)) (wGn 17) (wYes) (wCall gLenX (wCons (wLc (wItems (W2.w2 gIxA (wB 3) (wC (.int 1)))) (wGn 18) (wTrB (W2.w2 (gInA false) (wN 17) (wB 18))) (wC (.int 1)) [18]) (wNil))) [17]) (wNil)))) (wGn 16)) (wSeq (wIf (wTrB (W2.w2 gNe (wCall gRepr (wCons (wFn 1 wf_ends (wCons (wN 3) (wNil))) (wNil))) (wCall gRepr (wCons (wB 16) (wNil))))) (wRet (wC (.bool false))) (wNext)) (wIf (wOrT (wTrB (W2.w2 gNe (wCall gSorted (wCons (wLc (wItems (wN 7)) (wGn 8) (wYes) (wCall gTuple (wCons (wLc (wZip false (wCons (wN 16) (wCons (wN 8) (wNil)))) (wGt 2 (wGcons (wGn 19) (wGcons (wGn 20) (wGnil)))) (wYes) (W2.w2 gSubI (wB 19) (wB 20)) [19, 20]) (wNil))) [8]) (wNil))) (wB 7))) (wTrB (W2.w2 gNe (wCall gRepr (wCons (wB 3) (wNil))) (wB 6)))) (wRet (wC (.bool false))) (wNext)))))))))
def rest1 : WS := (wSeq (wPar [4, 5, 6, 7] (wMFz (W2.w2 gIxA (wB 3) (wC (.int 0))) (wMFz (wCall gLenX (wCons (W2.w2 gIxA (wB 3) (wC (.int 1))) (wNil))) (wMFz (wCall gRepr (wCons (wB 3) (wNil))) (wMFz (wFn 1 (wf_points .list) (wCons (wN 3) (wNil))) (wMNil)))))) (wSeq (wIf (wOrT (wTrB (W2.w2 gNe (wCall gRepr (wCons (wFn 1 (wf_points .tuple) (wCons (wN 3) (wNil))) (wNil))) (wCall gRepr (wCons (wCall gTuple (wCons (wB 7) (wNil))) (wNil))))) (wTrB (W2.w2 gNe (wCall gLenX (wCons (wB 7) (wNil))) (wCall gLenX (wCons (wFn 1 wf_free (wCons (wN 3) (wNil))) (wNil)))))) (wRet (wC (.bool false))) (wNext)) (wSeq (wFor (wItems (wSl (wFnS 1 1 wfMixed (wCons (wN 7) (wNil))) (wNoPart) (wPart (wC (.int 4))))) (wGn 8) (wSeq (wAsg (W2.w2 gAdd (wTup (wCons (W2.w2 gSubI (wB 5) (wCall gSum (wCons (wB 8) (wNil)))) (wNil))) (wSl (wB 8) (wPart (wC (.int 1))) (wNoPart))) (wGn 9)) (wIf (wTrB (W2.w2 gNe (wCall gRepr (wCons (wLst (wCons (wFn 1 wf_heights (wCons (wN 9) (wNil))) (wCons (wFn 2 wf_outsH (wCons (wN 3) (wCons (wN 8) (wNil)))) (wNil)))) (wNil))) (wCall gRepr (wCons (wLst (wCons (wN 8) (wCons (wN 9) (wNil)))) (wNil))))) (wRet (wC (.bool false))) (wNext)))) (wSeq (wFor (wRng1 (wC (.int 6))) (wGn 10) (wSeq (wAsg (W2.w2 gAdd (wTup (wCons (wC (.int 0)) (wNil))) (wCall gTuple (wCons (wLc (wRng2 (wC (.int 1)) (wB 4)) (wGn 17) (wYes) (W2.w2 gSubI (wFnS 1 1 wfPick (wCons (W2.w2 gAdd (wB 5) (wC (.int 2))) (wNil))) (wC (.int 1))) [17]) (wNil)))) (wGn 11)) (wSeq (wAsg (W2.w2 gLeA (wCall gSum (wCons (wB 11) (wNil))) (wB 5)) (wGn 12)) (wSeq (wFor (wItems (wFn 1 wf_lots1 (wCons (wN 4) (wNil)))) (wGn 13) (wSeq (wAsg (wFn 2 wf_within (wCons (wN 3) (wCons (wN 13) (wNil)))) (wGn 14)) (wAsg (wAndV (wN 12) (wChain gLeA gLeA (wB 14) (wCall gSum (wCons (wLc (wItems (wN 13)) (wGn 17) (wYes) (W2.w2 gIxA (wB 11) (wN 17)) [17]) (wNil))) (W2.w2 gAdd (wB 14) (wFn 2 wf_cut (wCons (wN 3) (wCons (wN 13) (wNil))))))) (wGn 12)))) (wIf (wTrB (W2.w2 gNe (wB 12) (W2.w2 (gInA false) (wN 11) (wB 7)))) (wRet (wC (.bool false))) (wNext)))))) (wSeq (wAsg (wFnS 1 2 wf_any (wCons (wN 4) (wCons (wC (.int 4)) (wNil)))) (wGn 15)) (wSeq (wIf (wTrB (W2.w2 gNe (wCall gRepr (wCons (wFn 2 wf_values (wCons (wCall gTuple (wCons (wB 7) (wNil))) (wCons (wN 15) (wNil)))) (wNil))) (wCall gRepr (wCons (wCall gTuple (wCons (wLc (wItems (wN 7)) (wGn 8) (wYes) (wFn 2 wf_worth (wCons (wN 15) (wCons (wN 8) (wNil)))) [8]) (wNil))) (wNil))))) (wRet (wC (.bool false))) (wNext)) (wSeq (wAsg (W2.w2 gAdd (wTup (wCons (wC (.int 0)) (wNil))) (wCall gTuple (wCons (wLc (wRng2 (wC (.int 1)) (wB 4)) (wGn 17) (wYes) (wCall gLenX (wCons (wLc (wItems (W2.w2 gIxA (wB 3) (wC (.int 1)))) (wGn 18) (wTrB (W2.w2 (gInA false) (wN 17) (wB 18))) (wC (.int 1)) [18]) (wNil))) [17]) (wNil)))) (wGn 16)) (wSeq (wIf (wTrB (W2.w2 gNe (wCall gRepr (wCons (wFn 1 wf_ends (wCons (wN 3) (wNil))) (wNil))) (wCall gRepr (wCons (wB 16) (wNil))))) (wRet (wC (.bool false))) (wNext)) (wIf (wOrT (wTrB (W2.w2 gNe (wCall gSorted (wCons (wLc (wItems (wN 7)) (wGn 8) (wYes) (wCall gTuple (wCons (wLc (wZip false (wCons (wN 16) (wCons (wN 8) (wNil)))) (wGt 2 (wGcons (wGn 19) (wGcons (wGn 20) (wGnil)))) (wYes) (W2.w2 gSubI (wB 19) (wB 20)) [19, 20]) (wNil))) [8]) (wNil))) (wB 7))) (wTrB (W2.w2 gNe (wCall gRepr (wCons (wB 3) (wNil))) (wB 6)))) (wRet (wC (.bool false))) (wNext))))))))))
def look3 : WS := (wIf (wTrB (W2.w2 gNe (wB 12) (W2.w2 (gInA false) (wN 11) (wB 7)))) (wRet (wC (.bool false))) (wNext))
def look2 : WS := (wSeq (wFor (wItems (wFn 1 wf_lots1 (wCons (wN 4) (wNil)))) (wGn 13) (wSeq (wAsg (wFn 2 wf_within (wCons (wN 3) (wCons (wN 13) (wNil)))) (wGn 14)) (wAsg (wAndV (wN 12) (wChain gLeA gLeA (wB 14) (wCall gSum (wCons (wLc (wItems (wN 13)) (wGn 17) (wYes) (W2.w2 gIxA (wB 11) (wN 17)) [17]) (wNil))) (W2.w2 gAdd (wB 14) (wFn 2 wf_cut (wCons (wN 3) (wCons (wN 13) (wNil))))))) (wGn 12)))) (wIf (wTrB (W2.w2 gNe (wB 12) (W2.w2 (gInA false) (wN 11) (wB 7)))) (wRet (wC (.bool false))) (wNext)))
end K33

set_option Elab.async false
set_option linter.all false
set_option maxRecDepth 100000
/-! K33S: what the law asks of values and ends. -/
namespace K33
open PySem PySem.Spec PyProof.Rows L2 W2 PySem.W Bet Out

structure Sit (n : Nat) (roads : List (Int × Int)) : Prop where
  n2 : 2 ≤ n
  n5 : n ≤ 5
  l6 : roads.length ≤ 6
  ok : FrOk n roads
abbrev envP (n : Nat) (roads : List (Int × Int)) (x2 x8 x9 x10 x11 x12 x13 x14 x15 x16 x17 x18 x19 x20 : W2.Slot) : En :=
  [.un, .src, x2, .fz (frD n roads), .fz (.int n), .fz (.int roads.length), .fz (.str (frD n roads).shown), .fz (.list ((pts n roads).map lotD)), x8, x9, x10, x11, x12, x13, x14, x15, x16, x17, x18, x19, x20]
def KcOk (x2 : W2.Slot) (Kc : En → Prop) : Prop := ∀ x3 x4 x5 x6 x7 x8 x9 x10 x11 x12 x13 x14 x15 x16 x17 x18 x19 x20 : W2.Slot, Kc [.un, .src, x2, x3, x4, x5, x6, x7, x8, x9, x10, x11, x12, x13, x14, x15, x16, x17, x18, x19, x20]
theorem Sit.len {n : Nat} {roads : List (Int × Int)} (s : Sit n roads) : (pts n roads).length ≤ 64 := by
  rw [pts_len]
  unfold cO outsS
  rw [List.length_mergeSort]
  exact Nat.le_trans (outsK_all n _ roads rfl s.ok.good).2.1 (Nat.le_trans (Nat.pow_le_pow_right (by decide) s.l6) (by decide))
theorem filter_le {α : Type} (f : α → Bool) (l : List α) : (l.filter f).length ≤ l.length := List.length_filter_le f l
theorem cnt_le (p : List Rd) (S : Int → Bool) : cnt p S + cutc p S ≤ p.length := by
  have := cnt_split S p
  have := cnt_nonneg p fun c => !S c
  omega
/-- heights that are a point lie between 0 and the number of roads -/
theorem Sit.pt {n : Nat} {roads : List (Int × Int)} (s : Sit n roads) {k : List Int} (h : k ∈ pts n roads) : k.length = n ∧ at_ k 0 = 0 ∧ ∀ x ∈ k, 0 ≤ x ∧ x ≤ 6 := by
  have n2 := s.n2
  have l6 := s.l6
  obtain ⟨hs, rfl, hl, lim⟩ := (mem_pts (by omega) s.ok.good).mp h
  refine ⟨by simpa using hl, rfl, fun x hx => ?_⟩
  rcases List.mem_cons.mp hx with e | hx
  · omega
  · obtain ⟨i, hi, e⟩ := List.getElem_of_mem hx
    have z := lim (fun c => decide (c = ((i + 1 : Nat) : Int))) (decide_eq_false (by omega))
    have c0 := cnt_nonneg roads fun c => decide (c = ((i + 1 : Nat) : Int))
    have c1 := cnt_le roads fun c => decide (c = ((i + 1 : Nat) : Int))
    rw [Sm_one (by omega) (by simp only [List.length_cons]; omega)] at z
    have ea : at_ (0 :: hs) ((i + 1 : Nat) : Int) = x := by
      unfold at_
      rw [Int.toNat_natCast, List.getD_eq_getElem?_getD, List.getElem?_cons_succ, List.getElem?_eq_getElem hi]
      exact e
    rw [ea] at z
    omega
theorem Sit.ht {n : Nat} {roads : List (Int × Int)} (s : Sit n roads) {k : List Int} (h : k ∈ pts n roads) : HtOk (n - 1) k := by
  obtain ⟨h1, _, h3⟩ := s.pt h
  have := s.n2; have := s.n5
  exact ⟨by omega, by omega, fun x hx => by have := h3 x hx; omega⟩
theorem Sit.lot {n : Nat} {roads : List (Int × Int)} (s : Sit n roads) {k : List Int} (h : k ∈ pts n roads) : LotOk k := by
  obtain ⟨h1, _, h3⟩ := s.pt h
  have := s.n5
  exact ⟨by omega, fun x hx => by have := h3 x hx; omega⟩
/-! ### what is shown -/
theorem repr_rows {l : List (List Int)} (h : ∀ r ∈ l, LotOk r) (hl : l.length ≤ 4096) : reprOk (.tuple (l.map lotD)) = true := by
  refine reprOk_of (layAll_map lay_lot l) ?_ (Nat.le_trans (Nat.succ_le_succ (depthAll_map depth_lot l)) (by decide)) ?_
  · exact showAll_map (e := lotD) fun r hr => show_lot (h r hr)
  · have h1 := sh_tuple (l.map lotD)
    have h2 := piled_map (e := lotD) (B := 143) (l := l) fun r hr => sh_lot (h r hr)
    have h3 : l.length * (143 + 2) ≤ 4096 * 145 := Nat.mul_le_mul hl (Nat.le_refl _)
    omega
theorem str_ne (s : Str) : (!PyData.eqv (.str s) (.str s)) = false := by
  show (!(s == s)) = false
  rw [beq_self_eq_true]; rfl
theorem shaped_lots (ls : List (List Int)) : SeqAt.shaped (.list (ls.map lotD)) = true := shaped_of (layAll_map lay_lot ls) (Nat.succ_le_succ (Nat.le_trans (depthAll_map depth_lot ls) (by decide)))
theorem for_each {g : WG} {body : WS} {W : WEnds} (I : En → Prop) : ∀ (ds : List W2.D) (η : En), I η →
    (∀ d ∈ ds, ∀ η, I η → ∀ Kc : En → Prop, (∀ η', I η' → Kc η') → g d η fun η1 => body { nx := Kc, rt := W.rt, bk := W.nx, ct := Kc } η1) → (∀ η', I η' → W.nx η') → forGo g body W ds η
  | [], η, hi, _, hend => hend η hi
  | d :: r, η, hi, h, hend => h d List.mem_cons_self η hi _ fun η' hi' => for_each I r η' hi' (fun y hy => h y (List.mem_cons_of_mem _ hy)) hend
theorem eqv_lots (ls : List (List Int)) : PyData.eqv (.list (ls.map lotD)) (.list (ls.map lotD)) = true := by
  show PyData.eqvAll _ _ = true
  rw [eqvAll_map eqv_lot]
  exact decide_eq_true rfl
theorem repr_lotB {l : List Int} {B : Nat} (h : ∀ x ∈ l, x.natAbs ≤ B) (hB : B ≤ 1000000) (hz : l.length * (B + 4) ≤ 10000000) : reprOk (lotD l) = true := by
  refine reprOk_of (lay_lot l) (showAll_map (e := PyData.int) fun x hx => show_int (Nat.le_trans (h x hx) hB)) (Nat.le_trans (depth_lot l) (by decide)) ?_
  have h1 := sh_tuple (l.map PyData.int)
  have h2 := piled_map (e := PyData.int) (B := B + 2) (l := l) fun x hx => sh_int (h x hx)
  rw [show B + 2 + 2 = B + 4 by omega] at h2
  show (PyData.tuple _).shown.length ≤ _
  omega
theorem pow_le6 {r : Int} (h : r.natAbs ≤ 6) : ∀ i : Nat, (r ^ i).natAbs ≤ 6 ^ i
  | 0 => by rw [Int.pow_zero]; decide
  | i + 1 => by
    rw [Int.pow_succ, Int.natAbs_mul, Nat.pow_succ]
    exact Nat.mul_le_mul (pow_le6 h i) h
theorem term_le : ∀ (l : List (Int × Int)) (a : Int), (∀ q ∈ l, q.1.natAbs ≤ 6) → (l.foldl mulq a).natAbs ≤ a.natAbs * 6 ^ (l.map fun q => q.2.toNat).sum
  | [], a, _ => by simp
  | q :: l, a, h => by
    have ih := term_le l (mulq a q) fun z hz => h z (List.mem_cons_of_mem _ hz)
    rw [List.foldl_cons, List.map_cons, List.sum_cons, Nat.pow_add, ← Nat.mul_assoc]
    refine Nat.le_trans ih (Nat.mul_le_mul_right _ ?_)
    unfold mulq
    rw [Int.natAbs_mul]
    exact Nat.mul_le_mul_left _ (pow_le6 (h q List.mem_cons_self) _)
theorem worth_le {m : Nat} {poly : List LI} (po : PolyOk m poly) {k : List Int} (hk : at_ k 0 = 0) (h6 : ∀ x ∈ k, 0 ≤ x ∧ x ≤ 6) : (worth poly k).natAbs ≤ poly.length * 6480 := by
  have r6 : ∀ x ∈ rises k, x.natAbs ≤ 6 := fun x hx => by
    obtain ⟨y, hy, rfl⟩ := List.mem_map.mp hx
    have := h6 y (List.mem_of_mem_drop hy)
    omega
  have one : ∀ p ∈ poly, (term p (rises k)).natAbs ≤ 6480 := fun p hp => by
    have h1 := term_le (List.zip (rises k) p.1) p.2 fun q hq => r6 q.1 (List.of_mem_zip (a := q.1) (b := q.2) hq).1
    have h2 := zip_sum (rises k) p.1 (po.nn p hp)
    have h3 := po.deg p hp
    have h4 := po.num p hp
    have h5 : 6 ^ ((List.zip (rises k) p.1).map fun q => q.2.toNat).sum ≤ 6 ^ 4 := Nat.pow_le_pow_right (by decide) (by omega)
    have h6 := Nat.mul_le_mul h4 h5
    exact Nat.le_trans h1 (Nat.le_trans h6 (by decide))
  have go : ∀ (l : List LI) (t : Int), (∀ p ∈ l, (term p (rises k)).natAbs ≤ 6480) → (l.foldl (fun t p => t + term p (rises k)) t).natAbs ≤ t.natAbs + l.length * 6480 := by
    intro l
    induction l with
    | nil => intro t _; simp
    | cons p l ih =>
      intro t h
      have h1 := ih (t + term p (rises k)) fun q hq => h q (List.mem_cons_of_mem _ hq)
      have h2 := h p List.mem_cons_self
      rw [List.foldl_cons, List.length_cons]
      omega
  have := go poly 0 one
  unfold worth
  simpa using this
/-! ### ends less points -/
theorem zip_minus : ∀ (a b : List Int), (List.zip a b).map (fun q => q.1 - q.2) = minus a b
  | [], _ => rfl
  | _ :: _, [] => rfl
  | x :: a, y :: b => by
    have ih := zip_minus a b
    unfold minus at ih ⊢
    rw [List.zip_cons_cons, List.map_cons, ih, List.zipWith_cons_cons]
section
variable {n : Nat} {roads : List (Int × Int)} {Kc bk : En → Prop} {x2 x8 x9 x10 x11 x12 x13 x14 x15 x16 x17 x18 x19 x20 : W2.Slot}
theorem rest9_ok (s : Sit n roads) (hK : KcOk x2 Kc) : rest9 { nx := Kc, rt := fun d => d = .bool true, bk := bk, ct := Kc } (envP n roads x2 x8 x9 x10 x11 x12 x13 x14 x15 (.fz (lotD (endsL n roads))) x17 x18 x19 x20) := by
  have n2 := s.n2
  have n5 := s.n5
  have l6 := s.l6
  have pl := s.len
  have hg := s.ok.good
  have hrf : reprOk (frD n roads) = true := repr_frame (by omega) (by omega) fun p hp => by have := hg p hp; omega
  show lcGo _ _ _ (envP n roads x2 .un x9 x10 x11 x12 x13 x14 x15 (.fz (lotD (endsL n roads))) x17 x18 x19 x20) ((pts n roads).map lotD) [] _
  refine lc_fm lotD (fun k => some (lotD (minus (endsL n roads) k))) (pts n roads) (fun k hk R hR => ?_) (le_line (by omega)) ?_
  · refine ⟨(fun z => nomatch z), ?_⟩
    show lcGo _ _ _ _ ((zipD ((endsL n roads).map PyData.int) (k.map PyData.int)).map PyData.tuple) [] _
    rw [zip_rd]
    refine lc_fm rdD (fun q => some (.int (q.1 - q.2))) (List.zip (endsL n roads) k) (fun q hq R2 hR2 => ⟨rfl, hR2⟩) (le_line (by rw [List.length_zip, endsL_len (by omega)]; omega)) ?_
    rw [fm_map fun q : Int × Int => PyData.int (q.1 - q.2)]
    have e : (List.zip (endsL n roads) k).map (fun q => PyData.int (q.1 - q.2)) = (minus (endsL n roads) k).map PyData.int := by rw [← zip_minus, List.map_map]; rfl
    rw [e]
    exact hR
  · rw [fm_map fun k => lotD (minus (endsL n roads) k)]
    have e : (pts n roads).map (fun k => lotD (minus (endsL n roads) k)) = ((pts n roads).map (minus (endsL n roads))).map lotD := by rw [List.map_map]; rfl
    rw [e]
    refine ⟨layAll_map lay_lot _, sortOk_lot _, ?_⟩
    rw [sortD_lot, minus_sort (by omega) hg s.ok.apart]
    refine ⟨eqOk_of (shaped_lots _) (shaped_lots _), ?_⟩
    rw [eqv_lots]
    refine ⟨hrf, rfl, ?_⟩
    rw [str_ne]
    exact hK _ _ _ _ _ _ _ _ _ _ _ _ _ _ _ _ _ _
theorem deg_le (p : List Rd) (c : Int) : 0 ≤ deg p c ∧ deg p c ≤ p.length := by
  unfold deg
  have := filter_le (fun q => decide (c = q.1) || decide (c = q.2)) p
  omega
theorem rest7_ok (s : Sit n roads) (hK : KcOk x2 Kc) : rest7 { nx := Kc, rt := fun d => d = .bool true, bk := bk, ct := Kc } (envP n roads x2 x8 x9 x10 x11 x12 x13 x14 x15 x16 x17 x18 x19 x20) := by
  have n2 := s.n2
  have n5 := s.n5
  have l6 := s.l6
  have eok : reprOk (lotD (endsL n roads)) = true := repr_lotB (B := 6) (fun x hx => by
    unfold endsL at hx
    rcases List.mem_cons.mp hx with e | hx
    · rw [e]; decide
    · obtain ⟨i, _, rfl⟩ := List.mem_map.mp hx
      have := deg_le roads ((i : Int) + 1)
      omega) (by decide) (by rw [endsL_len (by omega)]; omega)
  refine ⟨(show 1 ≤ sizeLine by decide), ⟨by omega, by omega, by omega, by omega⟩, ?_⟩
  show lcGo _ _ _ (envP n roads x2 x8 x9 x10 x11 x12 x13 x14 x15 x16 .un x18 x19 x20) ((List.range ((n : Int) - 1).toNat).map fun i => .int (1 + (i : Nat))) [] _
  rw [show ((n : Int) - 1).toNat = n - 1 by omega]
  refine lc_fm (fun i : Nat => PyData.int (1 + (i : Int))) (fun i => some (.int (deg roads ((i : Int) + 1)))) (List.range (n - 1)) (fun i hi R hR => ?_) (le_line (by rw [List.length_range]; omega)) ?_
  · refine ⟨_, rfl, ?_⟩
    show lcGo _ _ _ (envP n roads x2 x8 x9 x10 x11 x12 x13 x14 x15 x16 (.fz (.int (1 + (i : Int)))) .un x19 x20) (roads.map rdD) [] _
    refine lc_fm rdD (fun p => if (decide ((i : Int) + 1 = p.1) || decide ((i : Int) + 1 = p.2)) = true then some (.int 1) else none) roads (fun p hp R2 hR2 => ?_) (le_line (by omega)) ?_
    · show gInA false (.int (1 + (i : Int))) (rdD p) (fun d => match d with | .bool k => (if k = true then R2 (some (.int 1)) else R2 none) | _ => False)
      refine in_lot (x := 1 + (i : Int)) (l := [p.1, p.2]) ?_
      have e2 : decide (1 + (i : Int) ∈ [p.1, p.2]) = (decide ((i : Int) + 1 = p.1) || decide ((i : Int) + 1 = p.2)) := by rw [Int.add_comm 1]; simp
      rw [e2]
      show (if (decide ((i : Int) + 1 = p.1) || decide ((i : Int) + 1 = p.2)) = true then R2 (some (.int 1)) else R2 none)
      cases q1 : (decide ((i : Int) + 1 = p.1) || decide ((i : Int) + 1 = p.2)) with
      | false => rw [q1] at hR2; exact hR2
      | true => rw [q1] at hR2; exact hR2
    · rw [filterMap_some]
      show R (some (.int (((roads.filter fun p => decide ((i : Int) + 1 = p.1) || decide ((i : Int) + 1 = p.2)).map fun _ => PyData.int 1).length : Nat)))
      rw [List.length_map]
      exact hR
  · rw [fm_map fun i : Nat => PyData.int (deg roads ((i : Int) + 1))]
    have e : ([PyData.int 0] ++ (List.range (n - 1)).map (fun i : Nat => PyData.int (deg roads ((i : Int) + 1)))) = (endsL n roads).map PyData.int := by
      unfold endsL
      rw [List.map_cons, List.map_map]
      rfl
    refine ⟨?_, ?_⟩
    · rw [List.length_map, List.length_range]
      exact le_line (show 1 + _ ≤ _ by omega)
    · rw [e]
      refine ⟨rfl, n, roads, rfl, by omega, by omega, by omega, eok, eok, rfl, ?_⟩
      show (if (!PyData.eqv (.str (lotD (endsL n roads)).shown) (.str (lotD (endsL n roads)).shown)) = true then _ else _)
      rw [str_ne, if_neg (by decide)]
      exact rest9_ok s hK
theorem rest5_ok (s : Sit n roads) (hK : KcOk x2 Kc) : rest5 { nx := Kc, rt := fun d => d = .bool true, bk := bk, ct := Kc } (envP n roads x2 x8 x9 x10 x11 x12 x13 x14 x15 x16 x17 x18 x19 x20) := by
  have n2 := s.n2
  have n5 := s.n5
  have l6 := s.l6
  have pl := s.len
  refine ⟨rfl, n - 1, by rw [show ((n - 1 : Nat) : Int) + 1 = n by omega], by omega, by omega, fun poly po p3 => ?_⟩
  have vok : reprOk (lotD ((pts n roads).map (worth poly))) = true := repr_lotB (B := 19440) (fun x hx => by
    obtain ⟨k, hk, rfl⟩ := List.mem_map.mp hx
    obtain ⟨_, a, b⟩ := s.pt hk
    have := worth_le po a b
    omega) (by decide) (by rw [List.length_map]; have := Nat.mul_le_mul_right (19440 + 4) pl; omega)
  refine ⟨rfl, n - 1, pts n roads, poly, rfl, by omega, po, fun k hk => s.ht hk, vok, ?_⟩
  show lcGo _ _ _ (envP n roads x2 .un x9 x10 x11 x12 x13 x14 (.fz (rsD poly)) x16 x17 x18 x19 x20) ((pts n roads).map lotD) [] _
  refine lc_fm lotD (fun k => some (.int (worth poly k))) (pts n roads) (fun k hk' R hR => ⟨rfl, n - 1, poly, k, rfl, po, s.ht hk', hR⟩) (le_line (by omega)) ?_
  rw [fm_map fun k => PyData.int (worth poly k)]
  have e : PyData.tuple ((pts n roads).map fun k => PyData.int (worth poly k)) = lotD ((pts n roads).map (worth poly)) := by unfold lotD; rw [List.map_map]; rfl
  show reprOk (PyData.tuple ((pts n roads).map fun k => PyData.int (worth poly k))) = true ∧ _
  rw [e]
  refine ⟨vok, rfl, ?_⟩
  show (if (!PyData.eqv (.str (lotD ((pts n roads).map (worth poly))).shown) (.str (lotD ((pts n roads).map (worth poly))).shown)) = true then _ else _)
  rw [str_ne, if_neg (by decide)]
  exact rest7_ok s hK
end
end K33

set_option Elab.async false
set_option linter.all false
set_option maxRecDepth 100000
/-! K33T: heights looked at. -/
namespace K33
open PySem PySem.Spec PyProof.Rows L2 W2 PySem.W Bet Out

theorem atL_Sm {r : List Int} : ∀ {L : List Int}, L.Nodup → (∀ c ∈ L, 0 ≤ c ∧ c < r.length) → atL r L = Sm r (memb L)
  | [], _, _ => by
    have e : memb [] = fun _ => false := by funext c; unfold memb; simp
    rw [e, Sm_false]
    rfl
  | c :: L, hn, hc => by
    obtain ⟨h1, h2⟩ := List.nodup_cons.mp hn
    have ih := atL_Sm (r := r) h2 fun x hx => hc x (List.mem_cons_of_mem _ hx)
    have hc0 := hc c List.mem_cons_self
    have ad := Sm_add r (fun x => decide (x = c)) (memb L)
    have e1 : (fun x => decide (x = c) || memb L x) = memb (c :: L) := by
      funext x
      unfold memb
      simp
    have e2 : Sm r (fun x => decide (x = c) && memb L x) = 0 := by
      rw [← Sm_false r]
      refine Sm_congr fun x _ _ => ?_
      unfold memb
      by_cases q : x = c
      · rw [q]; simp [h1]
      · simp [q]
    rw [e1, e2, Sm_one hc0.1 hc0.2, ← ih] at ad
    show (List.map (at_ r) (c :: L)).sum = _
    rw [List.map_cons, List.sum_cons]
    unfold atL at ad
    omega
theorem chain_le {wa wb wc : WE} {η : En} {Q : W2.D → Prop} {i j k : Int} (A : ∀ P : W2.D → Prop, P (.int i) → wa η P) (B : ∀ P : W2.D → Prop, P (.int j) → wb η P) (C : ∀ P : W2.D → Prop, P (.int k) → wc η P) (q : Q (.bool (decide (i ≤ j) && decide (j ≤ k)))) : wChain gLeA gLeA wa wb wc η Q := by
  refine A _ (B _ ?_)
  have go : ∀ b : Bool, (b = true → wc η fun w => gLeA (.int j) w Q) → (b = false → Q (.bool false)) → (match PyData.bool b with | .bool true => wc η fun w => gLeA (.int j) w Q | .bool false => Q (.bool false) | _ => False) := fun b h1 h2 => by
    cases b
    · exact h2 rfl
    · exact h1 rfl
  refine go (decide (i ≤ j)) (fun h => C _ ?_) fun h => ?_
  · rw [h] at q
    exact q
  · rw [h] at q
    exact q
theorem any_lot (k : List Int) : ∀ ps : List (List Int), (ps.map lotD).any (fun z => PyData.eqv z (lotD k)) = decide (k ∈ ps)
  | [] => rfl
  | p :: ps => by
    rw [List.map_cons, List.any_cons, any_lot k ps, eqv_lot]
    by_cases e : p = k
    · subst e
      rw [decide_eq_true (show p ∈ p :: ps from List.mem_cons_self), decide_eq_true (rfl : p = p), Bool.true_or]
    · rw [decide_eq_false e, Bool.false_or]
      congr 1
      rw [List.mem_cons]
      exact propext ⟨.inr, fun h => h.resolve_left fun z => e z.symm⟩
def okL (roads : List (Int × Int)) (k : List Int) (L : List Int) : Bool := decide (cnt roads (memb L) ≤ atL k L) && decide (atL k L ≤ cnt roads (memb L) + cutc roads (memb L))
theorem fold_all (g : List Int → Bool) : ∀ (ls : List (List Int)) (b : Bool), ls.foldl (fun b L => b && g L) b = (b && ls.all g)
  | [], b => by simp
  | L :: ls, b => by rw [List.foldl_cons, fold_all g ls, List.all_cons, Bool.and_assoc]
theorem hts_out {m : Int} : ∀ {t : List Nat} {os : List (Option W2.D)}, Paired (fun (_ : Nat) o => ∃ h : Int, -1 ≤ h ∧ h ≤ m ∧ o = some (PyData.int h)) t os → ∃ hs : List Int, os.filterMap id = hs.map .int ∧ hs.length = t.length ∧ ∀ x ∈ hs, -1 ≤ x ∧ x ≤ m
  | _, _, .nil => ⟨[], rfl, rfl, fun _ h => by cases h⟩
  | _, _, .cons h r => by
    obtain ⟨hs, h1, h2, h3⟩ := hts_out r
    obtain ⟨x, x0, x1, rfl⟩ := h
    refine ⟨x :: hs, ?_, by rw [List.length_cons, List.length_cons, h2], fun y hy => ?_⟩
    · rw [List.filterMap_cons]; show PyData.int x :: _ = _; rw [h1, List.map_cons]
    · rcases List.mem_cons.mp hy with e | e
      · rw [e]; exact ⟨x0, x1⟩
      · exact h3 y e
section
variable {n : Nat} {roads : List (Int × Int)} {Kc bk : En → Prop} {x2 x8 x9 x10 x13 x14 x15 x16 x17 x18 x19 x20 : W2.Slot}
def LkOk (n : Nat) (roads : List (Int × Int)) (x2 x8 x9 : W2.Slot) (Kc : En → Prop) : Prop := ∀ x10 x11 x12 x13 x14 x15 x16 x17 x18 x19 x20 : W2.Slot, Kc (envP n roads x2 x8 x9 x10 x11 x12 x13 x14 x15 x16 x17 x18 x19 x20)
theorem look2_ok (s : Sit n roads) {hs : List Int} (hl : hs.length + 1 = n) (hK : LkOk n roads x2 x8 x9 Kc) : look2 { nx := Kc, rt := fun d => d = .bool true, bk := bk, ct := Kc } (envP n roads x2 x8 x9 x10 (.fz (lotD (0 :: hs))) (.fz (.bool (decide (hs.sum ≤ roads.length)))) x13 x14 x15 x16 x17 x18 x19 x20) := by
  have n2 := s.n2
  have n5 := s.n5
  have l6 := s.l6
  have hg := s.ok.good
  refine ⟨rfl, n, rfl, by omega, by omega, fun ls lok ll l10 => ?_⟩
  show forGo _ _ _ (ls.map lotD) _
  refine for_fold lotD (fun (b : Bool) η => ∃ x13 x14, η = envP n roads x2 x8 x9 x10 (.fz (lotD (0 :: hs))) (.fz (.bool b)) x13 x14 x15 x16 x17 x18 x19 x20) (fun b L => b && okL roads (0 :: hs) L) ls (decide (hs.sum ≤ roads.length)) _ ⟨_, _, rfl⟩ (fun L hL b η hI Kc2 hK2 => ?_) (fun η hI => ?_)
  · obtain ⟨x13, x14, rfl⟩ := hI
    obtain ⟨lss, lc⟩ := lok.1 L hL
    have lL := l10 L hL
    refine ⟨rfl, n, roads, L, lotD L, rfl, .inl rfl, by omega, ?_⟩
    cases b with
    | false => exact hK2 _ ⟨.fz (lotD L), .fz (.int (cnt roads (memb L))), rfl⟩
    | true =>
      show wChain gLeA gLeA (wB 14) (wCall gSum (wCons (wLc (wItems (wN 13)) (wGn 17) wYes (W2.w2 gIxA (wB 11) (wN 17)) [17]) wNil)) (W2.w2 gAdd (wB 14) (wFn 2 wf_cut (wCons (wN 3) (wCons (wN 13) wNil)))) (envP n roads x2 x8 x9 x10 (.fz (lotD (0 :: hs))) (.fz (.bool true)) (.fz (lotD L)) (.fz (.int (cnt roads (memb L)))) x15 x16 x17 x18 x19 x20) _
      refine chain_le (i := cnt roads (memb L)) (j := atL (0 :: hs) L) (k := cnt roads (memb L) + cutc roads (memb L)) (fun P h => h) (fun P h => ?_) (fun P h => ⟨rfl, n, roads, L, lotD L, rfl, .inl rfl, by omega, h⟩) ?_
      · show lcGo _ _ _ (envP n roads x2 x8 x9 x10 (.fz (lotD (0 :: hs))) (.fz (.bool true)) (.fz (lotD L)) (.fz (.int (cnt roads (memb L)))) x15 x16 .un x18 x19 x20) (L.map PyData.int) [] _
        refine lc_fm PyData.int (fun c => some (.int (at_ (0 :: hs) c))) L (fun c hc R hR => ?_) (le_line (by omega)) ?_
        · have := lc c hc
          exact ix_row (r := 0 :: hs) (.inl rfl) (by omega) (by rw [List.length_cons]; omega) hR
        · rw [fm_map fun c => PyData.int (at_ (0 :: hs) c)]
          have e : L.map (fun c => PyData.int (at_ (0 :: hs) c)) = (L.map (at_ (0 :: hs))).map PyData.int := by rw [List.map_map]; rfl
          rw [e]
          exact ⟨_, intsOf_map _, h⟩
      · exact hK2 _ ⟨.fz (lotD L), .fz (.int (cnt roads (memb L))), rfl⟩
  · obtain ⟨x13, x14, rfl⟩ := hI
    have fin : ls.foldl (fun b L => b && okL roads (0 :: hs) L) (decide (hs.sum ≤ roads.length)) = decide (0 :: hs ∈ pts n roads) := by
      rw [fold_all]
      have h := fits_iff (by omega) hg lok hl
      have sm : ∀ L ∈ ls, atL (0 :: hs) L = Sm (0 :: hs) (memb L) := fun L hL => by
        obtain ⟨lss, lc⟩ := lok.1 L hL
        exact atL_Sm lss.nodup fun c hc => by have := lc c hc; rw [List.length_cons]; omega
      by_cases q : 0 :: hs ∈ pts n roads
      · rw [decide_eq_true q]
        obtain ⟨h1, h2⟩ := h.mpr q
        rw [decide_eq_true h1, Bool.true_and, List.all_eq_true]
        intro L hL
        unfold okL
        rw [sm L hL, decide_eq_true (h2 L hL).1, decide_eq_true (h2 L hL).2]
        rfl
      · rw [decide_eq_false q, ← Bool.not_eq_true, Bool.and_eq_true, decide_eq_true_eq, List.all_eq_true]
        rintro ⟨h1, h2⟩
        refine q (h.mp ⟨h1, fun L hL => ?_⟩)
        have := h2 L hL
        unfold okL at this
        rw [Bool.and_eq_true, decide_eq_true_eq, decide_eq_true_eq, sm L hL] at this
        exact this
    rw [fin]
    refine ⟨shaped_lot _, shaped_lots _, ?_⟩
    rw [any_lot]
    refine ⟨eqOk_of rfl rfl, ?_⟩
    show (if (!(decide (0 :: hs ∈ pts n roads) == decide (0 :: hs ∈ pts n roads))) = true then _ else _)
    rw [beq_self_eq_true, if_neg (by decide)]
    exact hK _ _ _ _ _ _ _ _ _ _ _
end
section
variable {n : Nat} {roads : List (Int × Int)} {Kc bk : En → Prop} {x2 x8 x9 x10 x11 x12 x13 x14 x15 x16 x17 x18 x19 x20 : W2.Slot}
theorem rest4_ok (s : Sit n roads) (hK : KcOk x2 Kc) : rest4 { nx := Kc, rt := fun d => d = .bool true, bk := bk, ct := Kc } (envP n roads x2 x8 x9 x10 x11 x12 x13 x14 x15 x16 x17 x18 x19 x20) := by
  have n2 := s.n2
  have n5 := s.n5
  have l6 := s.l6
  refine ⟨⟨by decide, by decide⟩, ?_⟩
  show forGo _ _ _ ((List.range 6).map fun i : Nat => .int (0 + (i : Int))) _
  refine for_ix _ (fun i η => ∃ x10 x11 x12 x13 x14 x15 x16 x17 x18 x19 x20, η = envP n roads x2 x8 x9 x10 x11 x12 x13 x14 x15 x16 x17 x18 x19 x20) (fun i hi η hI Kc2 hK2 => ?_) (fun η hI => ?_) ⟨_, _, _, _, _, _, _, _, _, _, _, rfl⟩
  · obtain ⟨x10, x11, x12, x13, x14, x15, x16, x17, x18, x19, x20, rfl⟩ := hI
    refine ⟨(show 1 ≤ sizeLine by decide), ⟨by omega, by omega, by omega, by omega⟩, ?_⟩
    show lcGo _ _ _ (envP n roads x2 x8 x9 (.fz (.int (0 + (i : Int)))) x11 x12 x13 x14 x15 x16 .un x18 x19 x20) ((List.range ((n : Int) - 1).toNat).map fun i => .int (1 + (i : Nat))) [] _
    rw [show ((n : Int) - 1).toNat = n - 1 by omega]
    refine lc_rel (fun i : Nat => PyData.int (1 + (i : Int))) (fun _ o => ∃ h : Int, -1 ≤ h ∧ h ≤ roads.length ∧ o = some (.int h)) (List.range (n - 1)) [] (fun j hj R hR => ?_) (by rw [List.length_range, sizeLine_eq]; show 0 + (n - 1) ≤ _; omega) fun os hos => ?_
    · exact ⟨rfl, by omega, fun x x0 x1 => hR _ ⟨x - 1, by omega, by omega, rfl⟩⟩
    · obtain ⟨hs, es, hl, hb⟩ := hts_out hos
      rw [List.length_range] at hl
      rw [List.nil_append, es]
      refine ⟨?_, ?_⟩
      · rw [List.length_map]
        exact le_line (show 1 + _ ≤ _ by omega)
      · refine ⟨0 :: hs, intsOf_map (0 :: hs), ?_⟩
        rw [show (0 :: hs).sum = hs.sum by rw [List.sum_cons]; omega]
        exact look2_ok (hs := hs) (x10 := .fz (.int (0 + (i : Int)))) (x13 := x13) (x14 := x14) (x15 := x15) (x16 := x16) (x17 := x17) (x18 := x18) (x19 := x19) (x20 := x20) s (by omega) fun y10 y11 y12 y13 y14 y15 y16 y17 y18 y19 y20 => hK2 _ ⟨y10, y11, y12, y13, y14, y15, y16, y17, y18, y19, y20, rfl⟩
  · obtain ⟨x10, x11, x12, x13, x14, x15, x16, x17, x18, x19, x20, rfl⟩ := hI
    exact rest5_ok s hK
end
end K33

set_option Elab.async false
set_option linter.all false
set_option maxRecDepth 100000
/-! K33U: a lap of the law, and the law. -/
namespace K33
open PySem PySem.Spec PyProof.Rows L2 W2 PySem.W Bet Out

theorem repr_list {l : List (List Int)} (h : ∀ r ∈ l, LotOk r) (hl : l.length ≤ 4096) : reprOk (.list (l.map lotD)) = true := by
  refine reprOk_of (layAll_map lay_lot l) ?_ (Nat.le_trans (Nat.succ_le_succ (depthAll_map depth_lot l)) (by decide)) ?_
  · exact showAll_map (e := lotD) fun r hr => show_lot (h r hr)
  · have h1 := sh_list (l.map lotD)
    have h2 := piled_map (e := lotD) (B := 143) (l := l) fun r hr => sh_lot (h r hr)
    have h3 : l.length * (143 + 2) ≤ 4096 * 145 := Nat.mul_le_mul hl (Nat.le_refl _)
    omega
theorem mem_cut {ds : List W2.D} {lo hi : Option Int} {x : W2.D} (h : x ∈ W2.cutD ds lo hi) : x ∈ ds := List.mem_of_mem_drop (List.mem_of_mem_take h)
section
variable {n : Nat} {roads : List (Int × Int)} {Kc bk : En → Prop} {x2 x8 x9 x10 x11 x12 x13 x14 x15 x16 x17 x18 x19 x20 : W2.Slot}
theorem sum_nn : ∀ l : List Int, (∀ x ∈ l, 0 ≤ x) → 0 ≤ l.sum
  | [], _ => Int.le_refl _
  | z :: l, h => by rw [List.sum_cons]; have := h z List.mem_cons_self; have := sum_nn l fun w hw => h w (List.mem_cons_of_mem _ hw); omega
theorem Sit.outs (s : Sit n roads) {hs : List Int} (h : 0 :: hs ∈ pts n roads) : LotOk (((roads.length : Int) - hs.sum) :: hs) := by
  have n2 := s.n2
  have n5 := s.n5
  have l6 := s.l6
  obtain ⟨h1, _, h3⟩ := s.pt h
  obtain ⟨hs', e, hl, lim⟩ := (mem_pts (by omega) s.ok.good).mp h
  cases e
  have c := (lim_chr hl).mp lim
  have q := c.cut fun x => decide (x = 0)
  rw [Sm_one (by omega) (by simp only [List.length_cons]; omega)] at q
  have z := cnt_nonneg roads fun x => decide (x = 0)
  have e0 : at_ (((roads.length : Int) - hs.sum) :: hs) 0 = (roads.length : Int) - hs.sum := rfl
  have nn := sum_nn hs fun x hx => (h3 x (List.mem_cons_of_mem _ hx)).1
  refine ⟨by rw [List.length_cons]; omega, fun x hx => ?_⟩
  rcases List.mem_cons.mp hx with e | hx
  · omega
  · have := h3 x (List.mem_cons_of_mem _ hx); omega
theorem rest3_ok (s : Sit n roads) (hK : KcOk x2 Kc) : rest3 { nx := Kc, rt := fun d => d = .bool true, bk := bk, ct := Kc } (envP n roads x2 x8 x9 x10 x11 x12 x13 x14 x15 x16 x17 x18 x19 x20) := by
  have n2 := s.n2
  have n5 := s.n5
  have l6 := s.l6
  have pl := s.len
  refine ⟨rfl, by show ((pts n roads).map lotD).length < 16777216; rw [List.length_map]; omega, fun ys hy => ?_⟩
  refine for_each (fun η => ∃ x8 x9, η = envP n roads x2 x8 x9 x10 x11 x12 x13 x14 x15 x16 x17 x18 x19 x20) _ _ ⟨_, _, rfl⟩ (fun d hd η hI Kc2 hK2 => ?_) (fun η hI => ?_)
  · obtain ⟨x8, x9, rfl⟩ := hI
    obtain ⟨k, hk, rfl⟩ := List.mem_map.mp (hy.mem_iff.mp (mem_cut hd))
    obtain ⟨hs, rfl, hl, _⟩ := (mem_pts (by omega) s.ok.good).mp hk
    have lo := s.outs hk
    have lk := s.lot hk
    have sk : (0 :: hs).sum = hs.sum := by rw [List.sum_cons]; omega
    have ro : reprOk (.list ([0 :: hs, ((roads.length : Int) - hs.sum) :: hs].map lotD)) = true := repr_list (fun r hr => by
      simp only [List.mem_cons, List.not_mem_nil, or_false] at hr
      rcases hr with rfl | rfl
      · exact lk
      · exact lo) (by show 2 ≤ 4096; decide)
    have ec : W2.cutD ((0 :: hs).map PyData.int) (some 1) none = hs.map PyData.int := cut1 (0 :: hs)
    refine ⟨0 :: hs, intsOf_map (0 :: hs), (show 1 ≤ sizeLine by decide), ?_, ?_⟩
    · rw [ec, List.length_map]
      exact le_line (show 1 + _ ≤ _ by omega)
    · rw [ec, sk]
      refine ⟨rfl, ((roads.length : Int) - hs.sum) :: hs, rfl, by rw [List.length_cons]; omega, ?_⟩
      refine ⟨rfl, n, roads, 0 :: hs, rfl, by rw [List.length_cons]; omega, by omega, ?_⟩
      refine ⟨(show 2 ≤ sizeLine by decide), ro, (show 2 ≤ sizeLine by decide), ro, rfl, ?_⟩
      show (if (!PyData.eqv (.str (PyData.list [lotD (0 :: hs), lotD (((roads.length : Int) - hs.sum) :: hs)]).shown) (.str (PyData.list [lotD (0 :: hs), lotD (((roads.length : Int) - hs.sum) :: hs)]).shown)) = true then _ else _)
      rw [str_ne, if_neg (by decide)]
      exact hK2 _ ⟨_, _, rfl⟩
  · obtain ⟨x8, x9, rfl⟩ := hI
    exact rest4_ok s hK
theorem rest2_ok (s : Sit n roads) (hK : KcOk x2 Kc) : rest2 { nx := Kc, rt := fun d => d = .bool true, bk := bk, ct := Kc } (envP n roads x2 x8 x9 x10 x11 x12 x13 x14 x15 x16 x17 x18 x19 x20) := by
  have n2 := s.n2
  have n5 := s.n5
  have l6 := s.l6
  have pl := s.len
  have ro : reprOk (.tuple ((pts n roads).map lotD)) = true := repr_rows (fun r hr => s.lot hr) (by omega)
  refine ⟨rfl, n, roads, rfl, by omega, by omega, by omega, s.ok.good, ro, ro, rfl, ?_⟩
  rw [str_ne]
  refine ⟨rfl, n, roads, rfl, by omega, by omega, by omega, s.ok.good, fun ls hls => ⟨eqOk_of rfl rfl, ?_⟩⟩
  show (if (!((((pts n roads).map lotD).length : Int) == ((ls.map lotD).length : Int))) = true then _ else _)
  rw [List.length_map, List.length_map, hls, pts_len, beq_self_eq_true, if_neg (by decide)]
  exact rest3_ok s hK
theorem rest1_ok (s : Sit n roads) (hK : KcOk x2 Kc) {x4 x5 x6 x7 : W2.Slot} : rest1 { nx := Kc, rt := fun d => d = .bool true, bk := bk, ct := Kc } [.un, .src, x2, .fz (frD n roads), x4, x5, x6, x7, x8, x9, x10, x11, x12, x13, x14, x15, x16, x17, x18, x19, x20] := by
  have n2 := s.n2
  have n5 := s.n5
  have l6 := s.l6
  have hg := s.ok.good
  have hrf : reprOk (frD n roads) = true := repr_frame (by omega) (by omega) fun p hp => by have := hg p hp; omega
  refine ⟨_, rfl, _, rfl, hrf, rfl, n, roads, rfl, by omega, by omega, by omega, hg, rfl, ?_⟩
  show rest2 _ [.un, .src, x2, .fz (frD n roads), .fz (.int n), .fz (.int ((roads.map rdD).length : Nat)), .fz (.str (frD n roads).shown), .fz (.list ((pts n roads).map lotD)), x8, x9, x10, x11, x12, x13, x14, x15, x16, x17, x18, x19, x20]
  rw [List.length_map]
  exact rest2_ok s hK
end
theorem at_four (a b c d : Int) {i : Nat} (hi : i < 4) : ∃ x, L2.atI [PyData.int a, .int b, .int c, .int d] (0 + (i : Int)) = some (.int x) ∧ ((i = 0 ∧ x = a) ∨ (i = 1 ∧ x = b) ∨ (i = 2 ∧ x = c) ∨ (i = 3 ∧ x = d)) := by
  match i, hi with
  | 0, _ => exact ⟨a, rfl, .inl ⟨rfl, rfl⟩⟩
  | 1, _ => exact ⟨b, rfl, .inr (.inl ⟨rfl, rfl⟩)⟩
  | 2, _ => exact ⟨c, rfl, .inr (.inr (.inl ⟨rfl, rfl⟩))⟩
  | 3, _ => exact ⟨d, rfl, .inr (.inr (.inr ⟨rfl, rfl⟩))⟩
theorem pts_two : pts 2 [(0, 1), (0, 1)] = [[0, 0], [0, 1], [0, 2]] := by
  have g2 : Good ((2 : Nat) : Int) [(0, 1), (0, 1)] := fun p hp => by
    simp only [List.mem_cons, List.not_mem_nil, or_false] at hp
    rcases hp with rfl | rfl <;> decide
  have e : outsK 2 [(0, 1), (0, 1)] = [[2, 0], [1, 1], [0, 2]] := by decide +kernel
  rw [← pts_K (by decide) g2, e]
  have pw : ([[0, 0], [0, 1], [0, 2]] : List (List Int)).Pairwise fun a b => leL a b = true := by
    simp only [leL_is]
    decide +kernel
  exact List.mergeSort_of_pairwise pw
theorem hw_law : wb_law wf_frame (wf_points .list) (wf_points .tuple) wf_free wf_heights wf_outsH wf_lots1 wf_within wf_cut wf_any wf_values wf_worth wf_ends { nx := fun _ => False, rt := fun d => d = .bool true }
    (lawE ["script", "source", "lap", "frame", "n", "m", "kept", "points", "point", "outs", "look", "heights", "fits", "lot", "low", "poly", "ends", "c", "pair", "a", "b"]) := by
  refine ⟨⟨by decide, by decide⟩, ?_⟩
  show forGo _ _ _ ((List.range 4).map fun i : Nat => .int (0 + (i : Int))) _
  refine for_ix _ (fun i η => ∃ x2 x3 x4 x5 x6 x7 x8 x9 x10 x11 x12 x13 x14 x15 x16 x17 x18 x19 x20, η = [.un, .src, x2, x3, x4, x5, x6, x7, x8, x9, x10, x11, x12, x13, x14, x15, x16, x17, x18, x19, x20]) (fun i hi η hI Kc hK => ?_) (fun η hI => ?_) ⟨.un, .un, .un, .un, .un, .un, .un, .un, .un, .un, .un, .un, .un, .un, .un, .un, .un, .un, .un, rfl⟩
  · obtain ⟨x2, x3, x4, x5, x6, x7, x8, x9, x10, x11, x12, x13, x14, x15, x16, x17, x18, x19, x20, rfl⟩ := hI
    obtain ⟨most, e1, c1⟩ := at_four 2 3 4 5 hi
    obtain ⟨more, e2, c2⟩ := at_four 4 4 3 2 hi
    refine ⟨(show 4 ≤ sizeLine by decide), .int most, e1, (show 4 ≤ sizeLine by decide), .int more, e2, rfl, most, more, rfl, by omega, by omega, by omega, by omega, fun n roads n2 nm hl ok => ?_⟩
    exact rest1_ok (n := n) (roads := roads) ⟨n2, by omega, by omega, ok⟩ fun y3 y4 y5 y6 y7 y8 y9 y10 y11 y12 y13 y14 y15 y16 y17 y18 y19 y20 => hK _ ⟨_, _, _, _, _, _, _, _, _, _, _, _, _, _, _, _, _, _, _, rfl⟩
  · obtain ⟨x2, x3, x4, x5, x6, x7, x8, x9, x10, x11, x12, x13, x14, x15, x16, x17, x18, x19, x20, rfl⟩ := hI
    have g2 : Good ((2 : Nat) : Int) [(0, 1), (0, 1)] := fun p hp => by
      simp only [List.mem_cons, List.not_mem_nil, or_false] at hp
      rcases hp with rfl | rfl <;> decide
    refine ⟨(show 2 ≤ sizeLine by decide), (show 2 ≤ sizeLine by decide), (show 2 ≤ sizeLine by decide), (show 2 ≤ sizeLine by decide), rfl, 2, [(0, 1), (0, 1)], rfl, by decide, by decide, by decide, g2, ?_⟩
    rw [pts_two]
    refine ⟨(show 2 ≤ sizeLine by decide), (show 2 ≤ sizeLine by decide), (show 2 ≤ sizeLine by decide), (show 3 ≤ sizeLine by decide), eqOk_of rfl rfl, ?_⟩
    rfl
end K33

set_option Elab.async false
set_option linter.all false
set_option maxRecDepth 100000
namespace K33
open PySem PySem.Spec PyProof.Rows L2 W2
theorem top {P : Program} {w : World} {K : PySem.W.Frag} {h : Heap} {mg : Str → Option Value} {fa : Addr} (X : K.In h) (G : h.Ns mainGlobals mg) (hfa : mg "law" = some (.ref fa)) (Z : Fs K mg) :
    ∃ fd : FuncData, (∀ (s : Shared) (u : Value), BindsTo s fd ⟨[u], []⟩ [("script", u)]) ∧ ∀ base : Heap, K.In base → base.Ns mainGlobals mg → FnG P w K mg base 4 fa fd ["script"] (spLawG K) := by
  have e : Z.f_law.a = fa := by
    have q := Z.f_law.m
    rw [hfa] at q
    cases q
    rfl
  subst e
  refine ⟨Z.f_law.d, fun s u => Z.f_law.bt s [u] rfl, fun base _ _ => ?_⟩
  have G_heights_of_outs : FnG P w K mg base 1 Z.f_heights_of_outs.a Z.f_heights_of_outs.d ["outs"] (spW K 1 wf_heights) := wk_heights_of_outs Z hw_heights
  have G_outs_of_heights : FnG P w K mg base 1 Z.f_outs_of_heights.a Z.f_outs_of_heights.d ["frame", "heights"] (spW K 2 wf_outsH) := wk_outs_of_heights Z hw_outsH
  have G_with_one : FnG P w K mg base 1 Z.f_with_one.a Z.f_with_one.d ["outs", "crossing", "more"] (spW K 3 wf_with) := wk_with_one Z hw_with
  have G_outs_rows : FnG P w K mg base 2 Z.f_outs_rows.a Z.f_outs_rows.d ["frame"] (spW K 1 (wf_outsR .tuple)) := wk_outs_rows Z G_with_one hw_outsR
  have G_points_of : FnG P w K mg base 3 Z.f_points_of.a Z.f_points_of.d ["frame"] (spW K 1 (wf_points .tuple)) := wk_points_of Z G_outs_rows G_heights_of_outs hw_points
  have G_worth_of : FnG P w K mg base 1 Z.f_worth_of.a Z.f_worth_of.d ["poly", "heights"] (spW K 2 wf_worth) := wk_worth_of Z hw_worth
  have G_values_at : FnG P w K mg base 2 Z.f_values_at.a Z.f_values_at.d ["points", "poly"] (spW K 2 wf_values) := wk_values_at Z G_worth_of hw_values
  have G_road_ends : FnG P w K mg base 1 Z.f_road_ends.a Z.f_road_ends.d ["frame"] (spW K 1 wf_ends) := wk_road_ends Z hw_ends
  have G__law_pick : FnG P w K mg base 1 Z.f__law_pick.a Z.f__law_pick.d ["source", "many"] (spS K 1 wfPick) := wk__law_pick Z
  have G__law_mixed : FnG P w K mg base 2 Z.f__law_mixed.a Z.f__law_mixed.d ["source", "things"] (spS K 1 wfMixed) := wk__law_mixed Z G__law_pick
  have G__law_frame : FnG P w K mg base 3 Z.f__law_frame.a Z.f__law_frame.d ["source", "most", "more"] (spS K 2 wf_frame) := wk__law_frame Z G__law_pick G__law_mixed hw_frame
  have G__law_points : FnG P w K mg base 1 Z.f__law_points.a Z.f__law_points.d ["frame"] (spW K 1 (wf_points .list)) := wk__law_points Z hw_lpoints
  have G__law_free_lots : FnG P w K mg base 1 Z.f__law_free_lots.a Z.f__law_free_lots.d ["frame"] (spW K 1 wf_free) := wk__law_free_lots Z hw_free
  have G__law_lots : FnG P w K mg base 1 Z.f__law_lots.a Z.f__law_lots.d ["n"] (spW K 1 wf_lots1) := wk__law_lots Z hw_lots1
  have G__law_cut : FnG P w K mg base 1 Z.f__law_cut.a Z.f__law_cut.d ["frame", "lot"] (spW K 2 wf_cut) := wk__law_cut Z hw_cut
  have G__law_within : FnG P w K mg base 1 Z.f__law_within.a Z.f__law_within.d ["frame", "lot"] (spW K 2 wf_within) := wk__law_within Z hw_within
  have G__law_worth : FnG P w K mg base 1 Z.f__law_worth.a Z.f__law_worth.d ["poly", "heights"] (spW K 2 wf_worth) := wk__law_worth Z hw_lworth
  have G__law_of : FnG P w K mg base 2 Z.f__law_of.a Z.f__law_of.d ["source", "some"] (spS K 1 wfOf) := wk__law_of Z G__law_pick fun ds Q hl h => of_lawX hl h
  have G__law_told : FnG P w K mg base 1 Z.f__law_told.a Z.f__law_told.d ["numbers"] (spW K 1 wf_told) := wk__law_told Z hw_told
  have G__law_any : FnG P w K mg base 3 Z.f__law_any.a Z.f__law_any.d ["source", "n", "degree"] (spS K 2 wf_any) := wk__law_any Z G__law_pick G__law_of G__law_told hw_any
  exact wk_law Z (wk__law_source Z) G__law_frame G__law_points G_points_of G__law_free_lots G__law_mixed G_heights_of_outs G_outs_of_heights G__law_pick G__law_lots G__law_within G__law_cut G__law_any G_values_at G__law_worth G_road_ends hw_law
end K33
open PySem PySem.W PyProof.Rows
set_option maxHeartbeats 0 in
theorem PySem.Challenge.cw_starpowers_k33_whole_points_of_frames_holds : PySem.Challenge.rw_starpowers_k33_whole_points_of_frames.Holds := by
  w_on; o_law; k_head; (case hw => w_witness2)
  k_fill
  refine W2.walk_ofG (l := PySem.Challenge.rw_starpowers_k33_whole_points_of_frames) (k := 4) (x := "script") rfl rfl ⟨rfl, by decide, by decide⟩ (fun w h Y => PySem.W.kIn_of Y) ?F
  case F =>
    intro w mg fa h KX G hmg
    refine' K33.top KX G hmg ⟨W2.fnF_mk KX G (fun _ _ _ _ _ _ us hl => match us, hl with | [_], _ => rfl) ?a_heights_of_outs ?l_heights_of_outs ?c_heights_of_outs ?k_heights_of_outs, W2.fnF_mk KX G (fun _ _ _ _ _ _ us hl => match us, hl with | [_, _], _ => rfl) ?a_outs_of_heights ?l_outs_of_heights ?c_outs_of_heights ?k_outs_of_heights, W2.fnF_mk KX G (fun _ _ _ _ _ _ us hl => match us, hl with | [_, _, _], _ => rfl) ?a_with_one ?l_with_one ?c_with_one ?k_with_one, W2.fnF_mk KX G (fun _ _ _ _ _ _ us hl => match us, hl with | [_], _ => rfl) ?a_outs_rows ?l_outs_rows ?c_outs_rows ?k_outs_rows, W2.fnF_mk KX G (fun _ _ _ _ _ _ us hl => match us, hl with | [_], _ => rfl) ?a_points_of ?l_points_of ?c_points_of ?k_points_of, W2.fnF_mk KX G (fun _ _ _ _ _ _ us hl => match us, hl with | [_, _], _ => rfl) ?a_worth_of ?l_worth_of ?c_worth_of ?k_worth_of, W2.fnF_mk KX G (fun _ _ _ _ _ _ us hl => match us, hl with | [_, _], _ => rfl) ?a_values_at ?l_values_at ?c_values_at ?k_values_at, W2.fnF_mk KX G (fun _ _ _ _ _ _ us hl => match us, hl with | [_], _ => rfl) ?a_road_ends ?l_road_ends ?c_road_ends ?k_road_ends, W2.fnF_mk KX G (fun _ _ _ _ _ _ us hl => match us, hl with | [_], _ => rfl) ?a__law_source ?l__law_source ?c__law_source ?k__law_source, W2.fnF_mk KX G (fun _ _ _ _ _ _ us hl => match us, hl with | [_, _], _ => rfl) ?a__law_pick ?l__law_pick ?c__law_pick ?k__law_pick, W2.fnF_mk KX G (fun _ _ _ _ _ _ us hl => match us, hl with | [_, _], _ => rfl) ?a__law_mixed ?l__law_mixed ?c__law_mixed ?k__law_mixed, W2.fnF_mk KX G (fun _ _ _ _ _ _ us hl => match us, hl with | [_, _, _], _ => rfl) ?a__law_frame ?l__law_frame ?c__law_frame ?k__law_frame, W2.fnF_mk KX G (fun _ _ _ _ _ _ us hl => match us, hl with | [_], _ => rfl) ?a__law_points ?l__law_points ?c__law_points ?k__law_points, W2.fnF_mk KX G (fun _ _ _ _ _ _ us hl => match us, hl with | [_], _ => rfl) ?a__law_free_lots ?l__law_free_lots ?c__law_free_lots ?k__law_free_lots, W2.fnF_mk KX G (fun _ _ _ _ _ _ us hl => match us, hl with | [_], _ => rfl) ?a__law_lots ?l__law_lots ?c__law_lots ?k__law_lots, W2.fnF_mk KX G (fun _ _ _ _ _ _ us hl => match us, hl with | [_, _], _ => rfl) ?a__law_cut ?l__law_cut ?c__law_cut ?k__law_cut, W2.fnF_mk KX G (fun _ _ _ _ _ _ us hl => match us, hl with | [_, _], _ => rfl) ?a__law_within ?l__law_within ?c__law_within ?k__law_within, W2.fnF_mk KX G (fun _ _ _ _ _ _ us hl => match us, hl with | [_, _], _ => rfl) ?a__law_worth ?l__law_worth ?c__law_worth ?k__law_worth, W2.fnF_mk KX G (fun _ _ _ _ _ _ us hl => match us, hl with | [_, _], _ => rfl) ?a__law_of ?l__law_of ?c__law_of ?k__law_of, W2.fnF_mk KX G (fun _ _ _ _ _ _ us hl => match us, hl with | [_], _ => rfl) ?a__law_told ?l__law_told ?c__law_told ?k__law_told, W2.fnF_mk KX G (fun _ _ _ _ _ _ us hl => match us, hl with | [_, _, _], _ => rfl) ?a__law_any ?l__law_any ?c__law_any ?k__law_any, W2.fnF_mk KX G (fun _ _ _ _ _ _ us hl => match us, hl with | [_], _ => rfl) ?a_law ?l_law ?c_law ?k_law, PySem.W.mg_none_of KX G ?z_abs, PySem.W.mg_none_of KX G ?z_dict, PySem.W.mg_none_of KX G ?z_enumerate, PySem.W.mg_none_of KX G ?z_int, PySem.W.mg_none_of KX G ?z_len, PySem.W.mg_none_of KX G ?z_list, PySem.W.mg_none_of KX G ?z_max, PySem.W.mg_none_of KX G ?z_range, PySem.W.mg_none_of KX G ?z_repr, PySem.W.mg_none_of KX G ?z_sorted, PySem.W.mg_none_of KX G ?z_sum, PySem.W.mg_none_of KX G ?z_tuple, PySem.W.mg_none_of KX G ?z_zip, W2.top_int KX G ?y_MOST_ROWS⟩
    (case a_heights_of_outs => k_is); (case l_heights_of_outs => k_is); (case c_heights_of_outs => k_is); (case k_heights_of_outs => k_is); (case a_outs_of_heights => k_is); (case l_outs_of_heights => k_is); (case c_outs_of_heights => k_is); (case k_outs_of_heights => k_is); (case a_with_one => k_is); (case l_with_one => k_is); (case c_with_one => k_is); (case k_with_one => k_is); (case a_outs_rows => k_is); (case l_outs_rows => k_is); (case c_outs_rows => k_is); (case k_outs_rows => k_is); (case a_points_of => k_is); (case l_points_of => k_is); (case c_points_of => k_is); (case k_points_of => k_is); (case a_worth_of => k_is); (case l_worth_of => k_is); (case c_worth_of => k_is); (case k_worth_of => k_is); (case a_values_at => k_is); (case l_values_at => k_is); (case c_values_at => k_is); (case k_values_at => k_is); (case a_road_ends => k_is); (case l_road_ends => k_is); (case c_road_ends => k_is); (case k_road_ends => k_is); (case a__law_source => k_is); (case l__law_source => k_is); (case c__law_source => k_is); (case k__law_source => k_is); (case a__law_pick => k_is); (case l__law_pick => k_is); (case c__law_pick => k_is); (case k__law_pick => k_is); (case a__law_mixed => k_is); (case l__law_mixed => k_is); (case c__law_mixed => k_is); (case k__law_mixed => k_is); (case a__law_frame => k_is); (case l__law_frame => k_is); (case c__law_frame => k_is); (case k__law_frame => k_is); (case a__law_points => k_is); (case l__law_points => k_is); (case c__law_points => k_is); (case k__law_points => k_is); (case a__law_free_lots => k_is); (case l__law_free_lots => k_is); (case c__law_free_lots => k_is); (case k__law_free_lots => k_is); (case a__law_lots => k_is); (case l__law_lots => k_is); (case c__law_lots => k_is); (case k__law_lots => k_is); (case a__law_cut => k_is); (case l__law_cut => k_is); (case c__law_cut => k_is); (case k__law_cut => k_is); (case a__law_within => k_is); (case l__law_within => k_is); (case c__law_within => k_is); (case k__law_within => k_is); (case a__law_worth => k_is); (case l__law_worth => k_is); (case c__law_worth => k_is); (case k__law_worth => k_is); (case a__law_of => k_is); (case l__law_of => k_is); (case c__law_of => k_is); (case k__law_of => k_is); (case a__law_told => k_is); (case l__law_told => k_is); (case c__law_told => k_is); (case k__law_told => k_is); (case a__law_any => k_is); (case l__law_any => k_is); (case c__law_any => k_is); (case k__law_any => k_is); (case a_law => k_is); (case l_law => k_is); (case c_law => k_is); (case k_law => k_is); (case z_abs => k_is); (case z_dict => k_is); (case z_enumerate => k_is); (case z_int => k_is); (case z_len => k_is); (case z_list => k_is); (case z_max => k_is); (case z_range => k_is); (case z_repr => k_is); (case z_sorted => k_is); (case z_sum => k_is); (case z_tuple => k_is); (case z_zip => k_is); (case y_MOST_ROWS => k_is)

