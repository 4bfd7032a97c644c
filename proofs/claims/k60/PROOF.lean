import PyProof.Rows.All
import Wide.All
import OpenK.AllK
import Wide.FinOn
import HandS.ForMost
import HandS.Walk
import HandS.Zip
import HandS.IsInst
import HandS.NoneIn
import HandS.TupMul
import HandS.TupAny
import HandS.Style
import HandS.More
import HandS.Dict
import HandS.Set
import HandS.Strs
import HandS.SetFor
import HandS.Deep
import HandS.Text
import HandS.Replace
import PyProof.ReprRoads
import HandS.Iter
import KE.GoesNew
import KE.GoesMore
import KE.GoesEnum
import HandS.Conv
import PyProof.Rows.ReprOcc
import PyProof.StrLawsRepr
import PyProof.StrLawsFirst
import PySem.Challenge.RW_echolots_k60_simulations_recognized
set_option Elab.async false
set_option linter.all false
set_option maxRecDepth 100000
/-! Trees of data, worlds, what a state of the evaluator says of the heap. -/
namespace Py
open PySem PySem.Spec PyProof.Rows L2

inductive D where
  | non | bl (b : Bool) | int (i : Int) | str (x : Str)
  | tup (xs : List D) | lst (xs : List D) | dic (kvs : List (D × D)) | obj (n : Nat)
  | fz (xs : List D)

def kD : Key → D
  | .inl i => .int i
  | .inr x => .str x

/-- what is fixed: the written part, the classes' addresses, the attributes' names -/
structure Gb where
  K : PySem.W.Frag
  cm : Nat → Addr
  fn : List Str

mutual
inductive Dat (G : Gb) (A : List Addr) (U : Hp) : D → V → Prop
  | non : Dat G A U .non .non
  | bl (b : Bool) : Dat G A U (.bl b) (.bl b)
  | int (i : Int) : Dat G A U (.int i) (.int i)
  | str (x : Str) : Dat G A U (.str x) (.str x)
  | tup {a : Addr} {vs : List V} {ds : List D} : SqT G.K U a vs → DatL G A U ds vs → Dat G A U (.tup ds) (.ref a)
  | lst {a : Addr} {vs : List V} {ds : List D} : U a = some (.lst vs) → DatL G A U ds vs → Dat G A U (.lst ds) (.ref a)
  | fz {a : Addr} {vs : List V} {ds : List D} : SqL G.K U a vs → DatL G A U ds vs → Dat G A U (.fz ds) (.ref a)
  | dic {a : Addr} {kvs : List (Key × V)} {ds : List D} : U a = some (.dK kvs) → DatL G A U ds (kvs.map (·.2)) → Dat G A U (.dic ((kvs.map fun p => kD p.1).zip ds)) (.ref a)
  | obj {n : Nat} {a : Addr} : A[n]? = some a → Dat G A U (.obj n) (.ref a)
inductive DatL (G : Gb) (A : List Addr) (U : Hp) : List D → List V → Prop
  | nil : DatL G A U [] []
  | cons {d : D} {v : V} {ds : List D} {vs : List V} : Dat G A U d v → DatL G A U ds vs → DatL G A U (d :: ds) (v :: vs)
end

def Sub (U U' : Hp) : Prop := ∀ p o, U p = some o → U' p = some o
theorem Sub.refl (U : Hp) : Sub U U := fun _ _ h => h
theorem Sub.trans {U V W : Hp} (a : Sub U V) (b : Sub V W) : Sub U W := fun p o h => b p o (a p o h)
theorem Sub.rd {U U' : Hp} {a : Addr} {u : HO} (e : Sub U U') (h : Rd U a u) : Rd U' a u := by
  rcases h with h | ⟨o, h⟩
  · exact .inl (e a _ h)
  · exact .inr ⟨o, e a _ h⟩
theorem Sub.sql {K : PySem.W.Frag} {U U' : Hp} {a : Addr} {xs : List V} (e : Sub U U') (h : SqL K U a xs) : SqL K U' a xs := by
  rcases h with h | h
  · exact .inl (e.rd h)
  · exact .inr h
theorem Sub.sqt {K : PySem.W.Frag} {U U' : Hp} {a : Addr} {xs : List V} (e : Sub U U') (h : SqT K U a xs) : SqT K U' a xs := by
  rcases h with h | h
  · exact .inl (e.rd h)
  · exact .inr h

section
variable {G : Gb} {A A' : List Addr} {U U' : Hp}
theorem get_app {α : Type} {A : List α} {r : List α} {n : Nat} {a : α} (h : A[n]? = some a) : (A ++ r)[n]? = some a := by
  obtain ⟨h1, h2⟩ := List.getElem?_eq_some_iff.mp h
  rw [List.getElem?_append_left h1, h]
mutual
theorem Dat.mono (eU : Sub U U') (eA : ∃ r, A' = A ++ r) : ∀ {d : D} {v : V}, Dat G A U d v → Dat G A' U' d v
  | _, _, .non => .non
  | _, _, .bl b => .bl b
  | _, _, .int i => .int i
  | _, _, .str x => .str x
  | _, _, .tup h t => .tup (eU.sqt h) (DatL.mono eU eA t)
  | _, _, .lst h t => .lst (eU _ _ h) (DatL.mono eU eA t)
  | _, _, .fz h t => .fz (eU.sql h) (DatL.mono eU eA t)
  | _, _, .dic h t => .dic (eU _ _ h) (DatL.mono eU eA t)
  | _, _, .obj h => .obj (by obtain ⟨r, e⟩ := eA; rw [e]; exact get_app h)
theorem DatL.mono (eU : Sub U U') (eA : ∃ r, A' = A ++ r) : ∀ {ds : List D} {vs : List V}, DatL G A U ds vs → DatL G A' U' ds vs
  | _, _, .nil => .nil
  | _, _, .cons h t => .cons (Dat.mono eU eA h) (DatL.mono eU eA t)
end
theorem DatL.length : ∀ {ds : List D} {vs : List V}, DatL G A U ds vs → ds.length = vs.length
  | _, _, .nil => rfl
  | _, _, .cons _ t => congrArg (· + 1) t.length
theorem DatL.get : ∀ {ds : List D} {vs : List V} {i : Nat} {v : V}, DatL G A U ds vs → vs[i]? = some v → ∃ d, ds[i]? = some d ∧ Dat G A U d v
  | _, _, _, _, .nil, e => by simp at e
  | _, _, 0, _, .cons h _, e => by simp at e; subst e; exact ⟨_, rfl, h⟩
  | _, _, i + 1, _, .cons _ t, e => by
    obtain ⟨d, h1, h2⟩ := DatL.get (i := i) t (by simpa using e)
    exact ⟨d, by simpa using h1, h2⟩
theorem DatL.getD : ∀ {ds : List D} {vs : List V} {i : Nat} {d : D}, DatL G A U ds vs → ds[i]? = some d → ∃ v, vs[i]? = some v ∧ Dat G A U d v
  | _, _, _, _, .nil, e => by simp at e
  | _, _, 0, _, .cons h _, e => by simp at e; subst e; exact ⟨_, rfl, h⟩
  | _, _, i + 1, _, .cons _ t, e => by
    obtain ⟨d, h1, h2⟩ := DatL.getD (i := i) t (by simpa using e)
    exact ⟨d, by simpa using h1, h2⟩
theorem DatL.append : ∀ {ds es : List D} {vs us : List V}, DatL G A U ds vs → DatL G A U es us → DatL G A U (ds ++ es) (vs ++ us)
  | _, _, _, _, .nil, s => s
  | _, _, _, _, .cons h t, s => .cons h (t.append s)
theorem DatL.take : ∀ {ds : List D} {vs : List V} (n : Nat), DatL G A U ds vs → DatL G A U (ds.take n) (vs.take n)
  | _, _, 0, _ => by rw [List.take_zero, List.take_zero]; exact .nil
  | _, _, _ + 1, .nil => .nil
  | _, _, n + 1, .cons h t => .cons h (t.take n)
theorem DatL.drop : ∀ {ds : List D} {vs : List V} (n : Nat), DatL G A U ds vs → DatL G A U (ds.drop n) (vs.drop n)
  | _, _, 0, h => h
  | _, _, _ + 1, .nil => .nil
  | _, _, n + 1, .cons h t => t.drop n
theorem DatL.set : ∀ {ds : List D} {vs : List V} (n : Nat) {d : D} {v : V}, Dat G A U d v → DatL G A U ds vs → DatL G A U (ds.set n d) (vs.set n v)
  | _, _, _, _, _, _, .nil => .nil
  | _, _, 0, _, _, h, .cons _ t => .cons h t
  | _, _, n + 1, _, _, h, .cons g t => .cons g (t.set n h)
theorem DatL.eraseIdx : ∀ {ds : List D} {vs : List V} (n : Nat), DatL G A U ds vs → DatL G A U (ds.eraseIdx n) (vs.eraseIdx n)
  | _, _, _, .nil => .nil
  | _, _, 0, .cons _ t => t
  | _, _, n + 1, .cons g t => .cons g (t.eraseIdx n)
theorem DatL.reverseAux : ∀ {ds : List D} {vs : List V}, DatL G A U ds vs → ∀ {es us}, DatL G A U es us → DatL G A U (ds.reverseAux es) (vs.reverseAux us) := by
  intro ds
  induction ds with
  | nil => intro vs h es us s; cases h; exact s
  | cons d ds ih => intro vs h es us s; cases h with | cons g t => exact ih t (.cons g s)
theorem DatL.reverse {ds : List D} {vs : List V} (h : DatL G A U ds vs) : DatL G A U ds.reverse vs.reverse := h.reverseAux .nil
end

/-- a world: what stood at the def's entry, what is shared, what is owned, the objects, the heap -/
structure Wd where
  B : Addr → Prop
  U : Hp
  O : Addr → Prop
  A : List Addr
  H : Hp
structure Wd.Ok (W : Wd) : Prop where
  sub : ∀ p o, W.U p = some o → W.H p = some o ∧ ¬ W.O p
  own : ∀ p, W.O p → ∃ o, W.H p = some o
  bas : ∀ p, W.B p → ∃ o, W.H p = some o
structure Step (W W' : Wd) : Prop where
  B : W'.B = W.B
  U : Sub W.U W'.U
  H : ∀ p o, W.H p = some o → ¬ W.O p → W'.H p = some o
  K : ∀ p o, W.H p = some o → ∃ o', W'.H p = some o'
  N : ∀ p, ((∃ o, W'.U p = some o) ∨ W'.O p) → (∃ o, W.U p = some o) ∨ W.O p ∨ W.H p = none
  A : ∃ r, W'.A = W.A ++ r
theorem Step.refl (W : Wd) : Step W W := ⟨rfl, Sub.refl _, fun _ _ h _ => h, fun _ o h => ⟨o, h⟩, fun _ h => h.elim .inl fun h => .inr (.inl h), ⟨[], by simp⟩⟩
theorem Step.free {W W' : Wd} (s : Step W W') {p : Addr} (h : W'.H p = none) : W.H p = none := by
  cases e : W.H p with
  | none => rfl
  | some o => obtain ⟨o', e'⟩ := s.K p o e; rw [h] at e'; cases e'
theorem Step.trans {W W1 W2 : Wd} (a : Step W W1) (ok1 : W1.Ok) (b : Step W1 W2) : Step W W2 where
  B := b.B.trans a.B
  U := a.U.trans b.U
  H := fun p o h ho => by
    by_cases h1 : W1.O p
    · exfalso
      rcases a.N p (.inr h1) with ⟨u, hu⟩ | h2 | h2
      · exact (ok1.sub p u (a.U _ _ hu)).2 h1
      · exact ho h2
      · rw [h] at h2; cases h2
    · exact b.H p o (a.H p o h ho) h1
  K := fun p o h => let ⟨o1, h1⟩ := a.K p o h; b.K p o1 h1
  N := fun p h => by
    rcases b.N p h with h1 | h1 | h1
    · exact a.N p (.inl h1)
    · exact a.N p (.inr h1)
    · exact .inr (.inr (a.free h1))
  A := by
    obtain ⟨r, e⟩ := a.A
    obtain ⟨r', e'⟩ := b.A
    exact ⟨r ++ r', by rw [e', e, List.append_assoc]⟩

/-! ### places -/
inductive Slot where
  | no | sh (d : D) | ow (d : D) | io (d : D)
structure Ob where
  cls : Nat
  flds : List Slot
structure Stt where
  loc : List Slot
  obs : List Ob
inductive Pl where
  | loc (i : Nat) | fld (n : Nat) (f : Nat)
  deriving DecidableEq
def Stt.fldAt (en : Stt) (n f : Nat) : Slot := match en.obs[n]? with
  | some ob => ob.flds.getD f .no
  | none => .no
def Stt.at (en : Stt) : Pl → Slot
  | .loc i => en.loc.getD i .no
  | .fld n f => en.fldAt n f
def Slot.own : Slot → Bool
  | .ow _ => true
  | .io _ => true
  | _ => false
/-- at p stands d, its parts shared -/
def Cont (G : Gb) (W : Wd) (d : D) (p : Addr) : Prop := match d with
  | .lst ds => ∃ vs, W.H p = some (.lst vs) ∧ DatL G W.A W.U ds vs
  | .dic kds => ∃ kvs ds, W.H p = some (.dK kvs) ∧ kds = (kvs.map fun q => kD q.1).zip ds ∧ DatL G W.A W.U ds (kvs.map (·.2))
  | _ => False
def SlotOk (G : Gb) (W : Wd) (p : Addr) (s : Slot) (v : V) : Prop := match s with
  | .no => True
  | .sh d => Dat G W.A W.U d v
  | .ow d => v = .ref p ∧ W.O p ∧ ¬ W.B p ∧ Cont G W d p
  | .io d => v = .ref p ∧ W.O p ∧ Cont G W d p
/-- the value at a place -/
def ValAt (G : Gb) (W : Wd) (σ : L2.St) : Pl → V → Prop
  | .loc i, v => σ[i]? = some (some v)
  | .fld n f, v => ∃ a C dx fs x, W.A[n]? = some a ∧ W.H a = some (.ins C dx fs) ∧ G.fn[f]? = some x ∧ fs.lookup x = some v
structure ObOk (G : Gb) (W : Wd) (n : Nat) (ob : Ob) : Prop where
  ex : ∃ a dx fs, W.A[n]? = some a ∧ W.H a = some (.ins (G.cm ob.cls) dx fs) ∧ W.O a ∧ W.O dx ∧ W.H dx = some (.own a) ∧ fs.length ≤ 100 ∧
    ∀ (x : Str) (v : V), fs.lookup x = some v → ∃ f : Nat, G.fn[f]? = some x
structure Rep (G : Gb) (W : Wd) (σ : L2.St) (en : Stt) : Prop where
  len : en.loc.length = σ.length
  obs : en.obs.length = W.A.length
  nod : W.A.Nodup
  ob : ∀ n ob, en.obs[n]? = some ob → ObOk G W n ob
  nof : ∀ n f d, en.fldAt n f ≠ .ow d
  ex : ∃ own : Pl → Addr, (∀ x, en.at x = .no ∨ ∃ v, ValAt G W σ x v ∧ SlotOk G W (own x) (en.at x) v) ∧
    ∀ x y, (en.at x).own = true → (en.at y).own = true → own x = own y → x = y
/-- all as it was, more besides -/
structure PStep (W W' : Wd) : Prop where
  S : Step W W'
  H : Sub W.H W'.H
  A : W'.A = W.A
  O : ∀ p, W.O p → W'.O p
theorem PStep.refl (W : Wd) : PStep W W := ⟨Step.refl W, Sub.refl _, rfl, fun _ h => h⟩
theorem PStep.trans {W W1 W2 : Wd} (a : PStep W W1) (ok : W1.Ok) (b : PStep W1 W2) : PStep W W2 :=
  ⟨a.S.trans ok b.S, a.H.trans b.H, b.A.trans a.A, fun p h => b.O p (a.O p h)⟩
section
variable {G : Gb} {W W' : Wd} {σ : L2.St} {en : Stt} {d : D} {p : Addr} {s : Slot} {v : V}
theorem Cont.pstep (q : PStep W W') (h : Cont G W d p) : Cont G W' d p := by
  cases d with
  | lst ds => obtain ⟨vs, h1, h2⟩ := h; exact ⟨vs, q.H _ _ h1, h2.mono q.S.U q.S.A⟩
  | dic kds => obtain ⟨kvs, ds, h1, h2, h3⟩ := h; exact ⟨kvs, ds, q.H _ _ h1, h2, h3.mono q.S.U q.S.A⟩
  | _ => exact h.elim
theorem SlotOk.pstep (q : PStep W W') (h : SlotOk G W p s v) : SlotOk G W' p s v := by
  cases s with
  | no => trivial
  | sh d => exact Dat.mono q.S.U q.S.A h
  | ow d => obtain ⟨h1, h2, h3, h4⟩ := h; exact ⟨h1, q.O _ h2, by rw [q.S.B]; exact h3, h4.pstep q⟩
  | io d => obtain ⟨h1, h2, h3⟩ := h; exact ⟨h1, q.O _ h2, h3.pstep q⟩
theorem Rep.pstep (q : PStep W W') (h : Rep G W σ en) : Rep G W' σ en where
  len := h.len
  obs := by rw [q.A]; exact h.obs
  nod := by rw [q.A]; exact h.nod
  nof := h.nof
  ob := fun n ob e => by
    obtain ⟨a, dx, fs, h1, h2, h3, h4, h5, h6⟩ := (h.ob n ob e).ex
    exact ⟨a, dx, fs, by rw [q.A]; exact h1, q.H _ _ h2, q.O _ h3, q.O _ h4, q.H _ _ h5, h6⟩
  ex := by
    obtain ⟨own, h1, h2⟩ := h.ex
    refine ⟨own, fun x => ?_, h2⟩
    rcases h1 x with e | ⟨v, e1, e2⟩
    · exact .inl e
    · refine .inr ⟨v, ?_, e2.pstep q⟩
      cases x with
      | loc i => exact e1
      | fld n f =>
        obtain ⟨a, C, dx, fs, x, z1, z2, z3, z4⟩ := e1
        exact ⟨a, C, dx, fs, x, by rw [q.A]; exact z1, q.H _ _ z2, z3, z4⟩
end
end Py
namespace Py
open PySem PySem.Spec PyProof.Rows L2
/-- all lists and tuples are within the line -/
def LenOk (K : PySem.W.Frag) (H : Hp) : Prop := ∀ a xs, SqL K H a xs ∨ SqT K H a xs → xs.length ≤ sizeLine
/-- a result's value: shared, or new and of nobody -/
def Val (G : Gb) (W W' : Wd) (fr : Bool) (d : D) (v : V) : Prop := match fr with
  | false => Dat G W'.A W'.U d v
  | true => ∃ p, v = .ref p ∧ W.H p = none ∧ W'.U p = none ∧ ¬ W'.O p ∧ Cont G W' d p
/-- what may be read: shared, or owned by somebody (its parts shared) -/
def Top (G : Gb) (W : Wd) (d : D) (v : V) : Prop := Dat G W.A W.U d v ∨ ∃ p, v = .ref p ∧ Cont G W d p

section
variable {G : Gb} {W W0 W1 W' : Wd} {σ : L2.St} {en : Stt} {d : D} {p : Addr} {s : Slot} {v : V} {fr : Bool}
theorem Cont.there (h : Cont G W d p) : ∃ o, W.H p = some o := by
  cases d with
  | lst ds => obtain ⟨vs, h1, _⟩ := h; exact ⟨_, h1⟩
  | dic kds => obtain ⟨kvs, ds, h1, _⟩ := h; exact ⟨_, h1⟩
  | _ => exact h.elim
/-- what is no one's stays -/
theorem Cont.step (st : Step W W') (ho : ¬ W.O p) (h : Cont G W d p) : Cont G W' d p := by
  cases d with
  | lst ds => obtain ⟨vs, h1, h2⟩ := h; exact ⟨vs, st.H _ _ h1 ho, h2.mono st.U st.A⟩
  | dic kds => obtain ⟨kvs, ds, h1, h2, h3⟩ := h; exact ⟨kvs, ds, st.H _ _ h1 ho, h2, h3.mono st.U st.A⟩
  | _ => exact h.elim
theorem Step.loose (st : Step W W') (hU : W.U p = none) (ho : ¬ W.O p) (ht : ∃ o, W.H p = some o) : W'.U p = none ∧ ¬ W'.O p := by
  obtain ⟨o, ht⟩ := ht
  have key : ¬ ((∃ o, W'.U p = some o) ∨ W'.O p) := fun h => by
    rcases st.N p h with ⟨u, q⟩ | q | q
    · rw [hU] at q; cases q
    · exact ho q
    · rw [ht] at q; cases q
  refine ⟨?_, fun h => key (.inr h)⟩
  cases e : W'.U p with
  | none => rfl
  | some u => exact (key (.inl ⟨u, e⟩)).elim
theorem Val.step (h : Val G W0 W fr d v) (st : Step W W') : Val G W0 W' fr d v := by
  cases fr with
  | false => exact Dat.mono st.U st.A h
  | true =>
    obtain ⟨p, e, h1, h2, h3, h4⟩ := h
    obtain ⟨a, b⟩ := st.loose h2 h3 h4.there
    exact ⟨p, e, h1, a, b, h4.step st h3⟩
theorem Val.back (h : Val G W0 W fr d v) (st : Step W1 W0) : Val G W1 W fr d v := by
  cases fr with
  | false => exact h
  | true => obtain ⟨p, e, h1, h2⟩ := h; exact ⟨p, e, st.free h1, h2⟩
theorem Val.top (h : Val G W0 W fr d v) : Top G W d v := by
  cases fr with
  | false => exact .inl h
  | true => obtain ⟨p, e, _, _, _, h4⟩ := h; exact .inr ⟨p, e, h4⟩

/-- p given out -/
def Wd.share (W : Wd) (p : Addr) (o : HO) : Wd := { W with U := upd W.U p o, O := fun q => W.O q ∧ q ≠ p }
theorem Cont.dat (h : Cont G W d p) : ∃ o, W.H p = some o ∧ ∀ U' A', Sub W.U U' → (∃ r, A' = W.A ++ r) → U' p = some o → Dat G A' U' d (.ref p) := by
  cases d with
  | lst ds => obtain ⟨vs, h1, h2⟩ := h; exact ⟨_, h1, fun U' A' s a e => .lst e (h2.mono s a)⟩
  | dic kds => obtain ⟨kvs, ds, h1, h2, h3⟩ := h; subst h2; exact ⟨_, h1, fun U' A' s a e => .dic e (h3.mono s a)⟩
  | _ => exact h.elim
theorem sub_upd {U : Hp} {o : HO} (h : U p = none ∨ U p = some o) : Sub U (upd U p o) := fun q u e => by
  by_cases hq : q = p
  · subst hq
    rcases h with h | h
    · rw [h] at e; cases e
    · rw [h] at e; cases e; exact upd_same
  · rw [upd_ne hq]; exact e
theorem share_ok {o : HO} (ok : W.Ok) (h : W.H p = some o) : (W.share p o).Ok where
  sub := fun q u e => by
    by_cases hq : q = p
    · subst hq
      have e' : upd W.U q o q = some u := e
      rw [upd_same] at e'; cases e'
      exact ⟨h, fun z => z.2 rfl⟩
    · have e' : upd W.U p o q = some u := e
      rw [upd_ne hq] at e'
      exact ⟨(ok.sub q u e').1, fun z => (ok.sub q u e').2 z.1⟩
  own := fun q z => ok.own q z.1
  bas := ok.bas
theorem share_step {o : HO} (h : W.H p = some o) (hU : W.U p = none) (hO : W.O p) : Step W (W.share p o) where
  B := rfl
  U := sub_upd (.inl hU)
  H := fun _ _ e _ => e
  K := fun _ u e => ⟨u, e⟩
  N := fun q e => by
    by_cases hq : q = p
    · subst hq; exact .inr (.inl hO)
    · rcases e with ⟨u, e⟩ | e
      · have e' : upd W.U p o q = some u := e
        rw [upd_ne hq] at e'; exact .inl ⟨u, e'⟩
      · exact .inr (.inl e.1)
  A := ⟨[], by simp [Wd.share]⟩
/-- .. where p is new since W0 -/
theorem share_new {o : HO} (st : Step W0 W) (h : W.H p = some o) (hU : W.U p = none) (hn : W0.H p = none) : Step W0 (W.share p o) where
  B := st.B
  U := st.U.trans (sub_upd (.inl hU))
  H := fun q u e z => st.H q u e z
  K := st.K
  N := fun q e => by
    by_cases hq : q = p
    · subst hq; exact .inr (.inr hn)
    · rcases e with ⟨u, e⟩ | e
      · have e' : upd W.U p o q = some u := e
        rw [upd_ne hq] at e'; exact st.N q (.inl ⟨u, e'⟩)
      · exact st.N q (.inr e.1)
  A := st.A
theorem SlotOk.share {o : HO} (h : SlotOk G W p s v) {q : Addr} (hU : W.U q = none ∨ W.U q = some o) (hne : s.own = true → p ≠ q) : SlotOk G (W.share q o) p s v := by
  have e : Sub W.U (W.share q o).U := sub_upd hU
  have ea : ∃ r, (W.share q o).A = W.A ++ r := ⟨[], by simp [Wd.share]⟩
  have ec : ∀ d, Cont G W d p → Cont G (W.share q o) d p := fun d h => by
    cases d with
    | lst ds => obtain ⟨vs, h1, h2⟩ := h; exact ⟨vs, h1, h2.mono e ea⟩
    | dic kds => obtain ⟨kvs, ds, h1, h2, h3⟩ := h; exact ⟨kvs, ds, h1, h2, h3.mono e ea⟩
    | _ => exact h.elim
  cases s with
  | no => trivial
  | sh d => exact Dat.mono e ea h
  | ow d => obtain ⟨h1, h2, h3, h4⟩ := h; exact ⟨h1, ⟨h2, hne rfl⟩, h3, ec d h4⟩
  | io d => obtain ⟨h1, h2, h3⟩ := h; exact ⟨h1, ⟨h2, hne rfl⟩, ec d h3⟩
theorem ObOk.share {o : HO} {n : Nat} {ob : Ob} (h : ObOk G W n ob) {q : Addr} (hq : W.H q = some o) (hi : ∀ C dx fs, o ≠ .ins C dx fs) (hw : ∀ a, o ≠ .own a) : ObOk G (W.share q o) n ob := by
  obtain ⟨a, dx, fs, h1, h2, h3, h4, h5, h6⟩ := h.ex
  exact ⟨a, dx, fs, h1, h2, ⟨h3, fun e => by subst e; rw [h2] at hq; cases hq; exact hi _ _ _ rfl⟩, ⟨h4, fun e => by subst e; rw [h5] at hq; cases hq; exact hw _ rfl⟩, h5, h6⟩
/-- all owners but x keep what they own -/
theorem Rep.share {o : HO} {en' : Stt} (h : Rep G W σ en) {q : Addr} (hq : W.H q = some o) (hi : ∀ C dx fs, o ≠ .ins C dx fs) (hw : ∀ a, o ≠ .own a)
    (hU : W.U q = none ∨ W.U q = some o) (hO : ¬ W.O q) : Rep G (W.share q o) σ en where
  len := h.len
  obs := h.obs
  nod := h.nod
  nof := h.nof
  ob := fun n ob e => (h.ob n ob e).share hq hi hw
  ex := by
    obtain ⟨own, h1, h2⟩ := h.ex
    refine ⟨own, fun x => ?_, h2⟩
    rcases h1 x with e | ⟨v, e1, e2⟩
    · exact .inl e
    · refine .inr ⟨v, ?_, e2.share hU fun es z => ?_⟩
      · cases x with
        | loc i => exact e1
        | fld n f => exact e1
      · generalize hs : en.at x = s at e2 es
        cases s with
        | no => cases es
        | sh d => cases es
        | ow d => exact hO (z ▸ e2.2.1)
        | io d => exact hO (z ▸ e2.2.1)
theorem Cont.kind (h : Cont G W d p) {o : HO} (e : W.H p = some o) : (∀ C dx fs, o ≠ .ins C dx fs) ∧ ∀ a, o ≠ .own a := by
  cases d with
  | lst ds => obtain ⟨vs, h1, _⟩ := h; rw [h1] at e; cases e; exact ⟨fun _ _ _ z => (nomatch z), fun _ z => (nomatch z)⟩
  | dic kds => obtain ⟨kvs, ds, h1, _⟩ := h; rw [h1] at e; cases e; exact ⟨fun _ _ _ z => (nomatch z), fun _ z => (nomatch z)⟩
  | _ => exact h.elim
/-- a new value given out -/
theorem Val.shared (ok : W.Ok) (st : Step W0 W) (h : Val G W0 W fr d v) (r : Rep G W σ en) : ∃ W', W'.H = W.H ∧ W'.A = W.A ∧ (∀ q, W'.O q ↔ W.O q) ∧ Sub W.U W'.U ∧ W'.Ok ∧ Step W0 W' ∧ Rep G W' σ en ∧ Dat G W'.A W'.U d v := by
  cases fr with
  | false => exact ⟨W, rfl, rfl, fun _ => Iff.rfl, Sub.refl _, ok, st, r, h⟩
  | true =>
    obtain ⟨p, e, h1, h2, h3, h4⟩ := h
    obtain ⟨o, q, z⟩ := h4.dat
    obtain ⟨k1, k2⟩ := h4.kind q
    subst e
    refine ⟨W.share p o, rfl, rfl, fun q => ⟨fun z => z.1, fun z => ⟨z, fun e => h3 (e ▸ z)⟩⟩, sub_upd (.inl h2), share_ok ok q, share_new st q h2 h1, r.share (en' := en) q k1 k2 (.inl h2) h3, z _ _ (sub_upd (.inl h2)) ⟨[], by simp [Wd.share]⟩ upd_same⟩

/-! ### a local name is stored -/
def Stt.set (en : Stt) (i : Nat) (s : Slot) : Stt := { en with loc := en.loc.set i s }
theorem at_set {i : Nat} {x : Pl} (h : i < en.loc.length) : (en.set i s).at x = if x = .loc i then s else en.at x := by
  cases x with
  | loc j =>
    show (en.loc.set i s).getD j .no = _
    by_cases e : i = j
    · subst e; simp [List.getD, h]
    · have : ¬ (Pl.loc j = Pl.loc i) := fun z => e (by cases z; rfl)
      rw [if_neg this]
      simp [List.getD, List.getElem?_set_ne e, Stt.at]
  | fld n f => rw [if_neg (fun z => nomatch z)]; rfl
theorem valAt_set {i : Nat} {x : Pl} {u : V} (h : ValAt G W σ x u) (hx : x ≠ .loc i) : ValAt G W (σ.set i (some v)) x u := by
  cases x with
  | loc j =>
    have : i ≠ j := fun e => hx (by rw [e])
    show (σ.set i (some v))[j]? = some (some u)
    rw [List.getElem?_set_ne this]; exact h
  | fld n f => exact h
theorem Rep.setSh {i : Nat} (r : Rep G W σ en) (hi : i < en.loc.length) (h : Dat G W.A W.U d v) : Rep G W (σ.set i (some v)) (en.set i (.sh d)) where
  len := by simp [Stt.set, r.len]
  obs := r.obs
  nod := r.nod
  nof := r.nof
  ob := r.ob
  ex := by
    obtain ⟨own, h1, h2⟩ := r.ex
    refine ⟨own, fun x => ?_, fun x y hx hy e => ?_⟩
    · rw [at_set hi]
      by_cases hx : x = .loc i
      · rw [if_pos hx]
        subst hx
        exact .inr ⟨v, by show (σ.set i (some v))[i]? = _; rw [List.getElem?_set_self (by rw [← r.len]; exact hi)], h⟩
      · rw [if_neg hx]
        rcases h1 x with e | ⟨u, e1, e2⟩
        · exact .inl e
        · exact .inr ⟨u, valAt_set e1 hx, e2⟩
    · rw [at_set hi] at hx hy
      by_cases ex : x = .loc i
      · rw [if_pos ex] at hx; cases hx
      · by_cases ey : y = .loc i
        · rw [if_pos ey] at hy; cases hy
        · rw [if_neg ex] at hx; rw [if_neg ey] at hy
          exact h2 x y hx hy e
def Stt.setF (en : Stt) (n f : Nat) (s : Slot) : Stt := match en.obs[n]? with
  | some ob => { en with obs := en.obs.set n { ob with flds := ob.flds.set f s } }
  | none => en
def Stt.setP (en : Stt) : Pl → Slot → Stt
  | .loc i, s => en.set i s
  | .fld n f, s => en.setF n f s
theorem lt_get {α : Type} {l : List α} {i : Nat} {a : α} (h : l[i]? = some a) : i < l.length := (List.getElem?_eq_some_iff.mp h).1
theorem setF_some {n f : Nat} {ob : Ob} (h : en.obs[n]? = some ob) : en.setF n f s = { en with obs := en.obs.set n { ob with flds := ob.flds.set f s } } := by unfold Stt.setF; rw [h]
theorem setF_none {n f : Nat} (h : en.obs[n]? = none) : en.setF n f s = en := by unfold Stt.setF; rw [h]
theorem getD_lt {l : List Slot} {i : Nat} (h : l.getD i .no ≠ .no) : i < l.length := by
  by_cases q : i < l.length
  · exact q
  · exact absurd (by rw [List.getD, List.getElem?_eq_none (Nat.le_of_not_lt q)]; rfl) h
theorem at_setP {x : Pl} (h : en.at x ≠ .no) (y : Pl) : (en.setP x s).at y = if y = x then s else en.at y := by
  cases x with
  | loc i => exact at_set (getD_lt h)
  | fld n f =>
    have hh : en.fldAt n f ≠ .no := h
    cases q : en.obs[n]? with
    | none => unfold Stt.fldAt at hh; rw [q] at hh; exact absurd rfl hh
    | some ob =>
      have hf : f < ob.flds.length := by unfold Stt.fldAt at hh; rw [q] at hh; exact getD_lt hh
      have es : en.setP (.fld n f) s = { en with obs := en.obs.set n { ob with flds := ob.flds.set f s } } := setF_some q
      rw [es]
      cases y with
      | loc j => rw [if_neg (fun z => nomatch z)]; rfl
      | fld m g =>
        show Stt.fldAt _ m g = _
        unfold Stt.fldAt
        by_cases hm : n = m
        · subst hm
          show (match (en.obs.set n _)[n]? with | some ob => ob.flds.getD g .no | none => .no) = _
          rw [List.getElem?_set_self (lt_get q)]
          show (ob.flds.set f s).getD g .no = _
          by_cases hg : f = g
          · subst hg
            rw [if_pos rfl]; simp [List.getD, hf]
          · rw [if_neg (fun z => hg (by cases z; rfl))]
            show _ = Stt.fldAt en n g
            unfold Stt.fldAt
            rw [q]
            simp [List.getD, List.getElem?_set_ne hg]
        · rw [if_neg (fun z => hm (by cases z; rfl))]
          show (match (en.obs.set n _)[m]? with | some ob => ob.flds.getD g .no | none => .no) = _
          rw [List.getElem?_set_ne hm]
          rfl
theorem setP_len {x : Pl} : (en.setP x s).loc.length = en.loc.length := by
  cases x with
  | loc i => exact List.length_set
  | fld n f =>
    show (en.setF n f s).loc.length = _
    unfold Stt.setF
    split <;> rfl
theorem setP_obs {x : Pl} : (en.setP x s).obs.length = en.obs.length := by
  cases x with
  | loc i => rfl
  | fld n f =>
    show (en.setF n f s).obs.length = _
    unfold Stt.setF
    split
    · exact List.length_set
    · rfl
theorem setP_cls {x : Pl} {n : Nat} {ob : Ob} (e : (en.setP x s).obs[n]? = some ob) : ∃ ob', en.obs[n]? = some ob' ∧ ob'.cls = ob.cls := by
  cases x with
  | loc i => exact ⟨ob, e, rfl⟩
  | fld m f =>
    have e : (en.setF m f s).obs[n]? = some ob := e
    cases q : en.obs[m]? with
    | none => rw [setF_none q] at e; exact ⟨ob, e, rfl⟩
    | some ob1 =>
      rw [setF_some q] at e
      by_cases hm : m = n
      · subst hm
        have e : (en.obs.set m { ob1 with flds := ob1.flds.set f s })[m]? = some ob := e
        rw [List.getElem?_set_self (lt_get q)] at e
        cases e
        exact ⟨ob1, q, rfl⟩
      · have e : (en.obs.set m { ob1 with flds := ob1.flds.set f s })[n]? = some ob := e
        rw [List.getElem?_set_ne hm] at e
        exact ⟨ob, e, rfl⟩
/-- p taken -/
def Wd.adopt (W : Wd) (p : Addr) : Wd := { W with O := fun q => W.O q ∨ q = p }
theorem adopt_ok (ok : W.Ok) (hU : W.U p = none) (ht : ∃ o, W.H p = some o) : (W.adopt p).Ok where
  sub := fun q u e => ⟨(ok.sub q u e).1, fun z => z.elim (ok.sub q u e).2 fun z => by subst z; rw [show (W.adopt q).U q = none from hU] at e; cases e⟩
  own := fun q z => z.elim (ok.own q) fun e => by subst e; exact ht
  bas := ok.bas
theorem adopt_new (st : Step W0 W) (hn : W0.H p = none) : Step W0 (W.adopt p) where
  B := st.B
  U := st.U
  H := st.H
  K := st.K
  N := fun q e => by
    rcases e with e | e | e
    · exact st.N q (.inl e)
    · exact st.N q (.inr e)
    · subst e; exact .inr (.inr hn)
  A := st.A
theorem SlotOk.adopt {q : Addr} (h : SlotOk G W p s v) : SlotOk G (W.adopt q) p s v := by
  cases s with
  | no => trivial
  | sh d => exact h
  | ow d => exact ⟨h.1, .inl h.2.1, h.2.2.1, h.2.2.2⟩
  | io d => exact ⟨h.1, .inl h.2.1, h.2.2⟩
theorem Rep.setOw {i : Nat} (r : Rep G W σ en) (hi : i < en.loc.length) (hO : ¬ W.O p) (hB : ¬ W.B p) (h : Cont G W d p) : Rep G (W.adopt p) (σ.set i (some (.ref p))) (en.set i (.ow d)) where
  len := by simp [Stt.set, r.len]
  obs := r.obs
  nod := r.nod
  nof := r.nof
  ob := fun n ob e => by
    obtain ⟨a, dx, fs, h1, h2, h3, h4, h5, h6⟩ := (r.ob n ob e).ex
    exact ⟨a, dx, fs, h1, h2, .inl h3, .inl h4, h5, h6⟩
  ex := by
    obtain ⟨own, h1, h2⟩ := r.ex
    have oth : ∀ x, x ≠ .loc i → (en.at x).own = true → own x ≠ p := fun x hx ho z => by
      rcases h1 x with e | ⟨u, e1, e2⟩
      · rw [e] at ho; cases ho
      · generalize en.at x = s at e2 ho
        cases s with
        | no => cases ho
        | sh d => cases ho
        | ow d => exact hO (z ▸ e2.2.1)
        | io d => exact hO (z ▸ e2.2.1)
    refine ⟨fun x => if x = .loc i then p else own x, fun x => ?_, fun x y hx hy e => ?_⟩
    · rw [at_set hi]
      by_cases hx : x = .loc i
      · rw [if_pos hx]
        show _ ∨ ∃ v, _ ∧ SlotOk G (W.adopt p) (if x = .loc i then p else own x) _ v
        rw [if_pos hx]
        subst hx
        exact .inr ⟨.ref p, by show (σ.set i (some _))[i]? = _; rw [List.getElem?_set_self (by rw [← r.len]; exact hi)], rfl, .inr rfl, hB, h⟩
      · rw [if_neg hx]
        show _ ∨ ∃ v, _ ∧ SlotOk G (W.adopt p) (if x = .loc i then p else own x) _ v
        rw [if_neg hx]
        rcases h1 x with e | ⟨u, e1, e2⟩
        · exact .inl e
        · exact .inr ⟨u, valAt_set (by
            cases x with
            | loc j => exact e1
            | fld n f => exact e1) hx, e2.adopt⟩
    · rw [at_set hi] at hx hy
      by_cases ex : x = .loc i
      · by_cases ey : y = .loc i
        · rw [ex, ey]
        · rw [if_neg ey] at hy
          simp only [if_pos ex, if_neg ey] at e
          exact absurd e.symm (oth y ey hy)
      · rw [if_neg ex] at hx
        by_cases ey : y = .loc i
        · simp only [if_neg ex, if_pos ey] at e
          exact absurd e (oth x ex hx)
        · rw [if_neg ey] at hy
          simp only [if_neg ex, if_neg ey] at e
          exact h2 x y hx hy e
/-- a result stored in a local name -/
def put (en : Stt) (i : Nat) (fr : Bool) (d : D) : Stt := en.set i (if fr then .ow d else .sh d)
theorem Rep.put {i : Nat} (ok : W.Ok) (ok0 : W0.Ok) (st : Step W0 W) (r : Rep G W σ en) (hi : i < en.loc.length) (h : Val G W0 W fr d v) :
    ∃ W', W'.H = W.H ∧ W'.Ok ∧ Step W0 W' ∧ Rep G W' (σ.set i (some v)) (Py.put en i fr d) := by
  cases fr with
  | false => exact ⟨W, rfl, ok, st, r.setSh hi h⟩
  | true =>
    obtain ⟨p, e, h1, h2, h3, h4⟩ := h
    subst e
    refine ⟨W.adopt p, rfl, adopt_ok ok h2 h4.there, adopt_new st h1, r.setOw hi h3 (fun z => ?_) h4⟩
    rw [st.B] at z
    obtain ⟨o, q⟩ := ok0.bas p z
    rw [h1] at q; cases q
end
end Py
/-! The small language and its evaluator. -/
namespace Py
open PySem PySem.Spec PyProof.Rows L2

inductive Ty where
  | int | str | bool | tuple | list | dict | cls (n : Nat)
inductive Prim where
  | len | sum | min | max | min2 | max2 | sorted | all | any | list | tuple | dict | int | abs | repr | sset | lset | lrange | trange
inductive Mth where
  | index | count | join | get | items | values
inductive Mut where
  | append | extend | pop | insert | clear | setdefault | update
inductive Tg where
  | nm (i : Nat) | tp (is : List Nat)
inductive IK where
  | val | rng1 | rng2 | enm | zip | zips | rvs | items | vals

inductive IE where
  | loc (i : Nat)
  | cst (d : D)
  | fld (o : IE) (f : Nat)
  | nop
  | tup (es : List IE) | lst (es : List IE) | dic (ks vs : List IE)
  | bin (o : Operator) (a b : IE) | neg (a : IE) | not (a : IE)
  | cmp (o : CmpOp) (a b : IE) | chn (o p : CmpOp) (a b c : IE)
  | and (a b : IE) | or (a b : IE) | ite (c a b : IE)
  | call (f : Nat) (es : List IE)
  | ocall (o : IE) (m : Nat) (es : List IE)
  | make (c : Nat) (es : List IE)
  | prm (p : Prim) (es : List IE)
  | isi (a : IE) (ts : List Ty)
  | idx (a b : IE)
  | slc (a lo hi : IE) | rev (a : IE)
  | mth (m : Mth) (o : IE) (es : List IE)
  | mut (m : Mut) (o : IE) (es : List IE)
  | lc (elt : IE) (tg : Tg) (k : IK) (src : List IE) (ifs : List IE) (own vis : List Nat)
  | lc2 (elt : IE) (tg : Tg) (k : IK) (src : List IE) (tg2 : Tg) (k2 : IK) (src2 : List IE) (own own2 vis : List Nat)

inductive IS where
  | asg (i : Nat) (e : IE)
  | asgT (is : List Nat) (e : IE)
  | par (is : List Nat) (es : List IE)
  | seti (o k e : IE)
  | augi (o k : IE) (op : Operator) (e : IE)
  | aug (i : Nat) (op : Operator) (e : IE)
  | fset (o : IE) (f : Nat) (e : IE)
  | faug (o : IE) (f : Nat) (op : Operator) (e : IE)
  | exp (e : IE)
  | ite (c : IE) (a b : List IS)
  | for (tg : Tg) (k : IK) (src : List IE) (body : List IS)
  | whl (c : IE) (body : List IS)
  | ret (e : IE) | retN | brk | cnt | pas | die

/-! ### operations on data -/
mutual
def eqD : D → D → Bool
  | .non, .non => true
  | .bl a, .bl b => a == b
  | .bl a, .int j => (if a then 1 else 0) == j
  | .int i, .bl b => i == (if b then 1 else 0)
  | .int i, .int j => i == j
  | .str x, .str y => x == y
  | .lst xs, .lst ys => eqDs xs ys
  | .tup xs, .tup ys => eqDs xs ys
  | _, _ => false
def eqDs : List D → List D → Bool
  | [], [] => true
  | x :: xs, y :: ys => eqD x y && eqDs xs ys
  | _, _ => false
end
def okE : Nat → D → Bool
  | _, .non => true
  | _, .bl _ => true
  | _, .int _ => true
  | _, .str x => PyData.strOk x
  | n + 1, .tup xs => xs.all (okE n)
  | n + 1, .lst xs => xs.all (okE n)
  | _, _ => false
def lim : Nat := 16777216
theorem lim_line : lim = sizeLine := by rw [sizeLine_eq]; rfl
def mulOk (i j : Int) : Prop := (-(2 ^ 64) < i ∧ i < 2 ^ 64) ∨ (-(2 ^ 64) < j ∧ j < 2 ^ 64)
instance (i j : Int) : Decidable (mulOk i j) := by unfold mulOk; exact inferInstance
def repD (xs : List D) (k : Int) : List D := (List.replicate k.toNat xs).flatten

/-- a op b; whether it is a new list -/
def binD : Operator → D → D → Option (D × Bool)
  | .Add, .int i, .int j => some (.int (i + j), false)
  | .Add, .str x, .str y => if x.length + y.length ≤ lim then some (.str (x ++ y), false) else none
  | .Add, .tup xs, .tup ys => if xs.length + ys.length ≤ lim then some (.tup (xs ++ ys), false) else none
  | .Add, .lst xs, .lst ys => if xs.length + ys.length ≤ lim then some (.lst (xs ++ ys), true) else none
  | .Sub, .int i, .int j => some (.int (i - j), false)
  | .Mult, .int i, .int j => if mulOk i j then some (.int (i * j), false) else none
  | .Mult, .lst xs, .int k => if k < 2 ^ 63 ∧ -(2 ^ 63) ≤ k ∧ xs.length * k.toNat ≤ lim then some (.lst (repD xs k), true) else none
  | .Mult, .tup xs, .int k => if -1000 ≤ k ∧ k ≤ 1000 ∧ xs.length ≤ 1000 then some (.tup (repD xs k), false) else none
  | .FloorDiv, .int i, .int j => if j ≠ 0 ∧ j.natAbs < 1073741824 then some (.int (i.fdiv j), false) else none
  | .Mod, .int i, .int j => if j ≠ 0 then some (.int (i.fmod j), false) else none
  | .Pow, .int i, .int j => if 0 ≤ j ∧ j ≤ 1000000 ∧ i.natAbs < 2 ^ 64 then some (.int (i ^ j.toNat), false) else none
  | _, _, _ => none
def isNonD : D → Bool
  | .non => true
  | _ => false
def inD (x : D) (ys : List D) : Bool := ys.any fun y => eqD y x
def cmpD : CmpOp → D → D → Option Bool
  | .Lt, .int i, .int j => some (decide (i < j))
  | .LtE, .int i, .int j => some (decide (i ≤ j))
  | .Gt, .int i, .int j => some (decide (j < i))
  | .GtE, .int i, .int j => some (decide (j ≤ i))
  | .Is, a, .non => some (isNonD a)
  | .IsNot, a, .non => some (!isNonD a)
  | .Eq, a, b => if okE 60 a && okE 60 b then some (eqD a b) else none
  | .NotEq, a, b => if okE 60 a && okE 60 b then some (!eqD a b) else none
  | _, _, _ => none
def idxD : D → D → Option D
  | .lst xs, .int i => atI xs i
  | .tup xs, .int i => atI xs i
  | .str z, .int i => if z.length ≤ lim then (atI z.cps.toList i).map fun c => .str ⟨#[c]⟩ else none
  | _, _ => none
def asInt : D → Option Int
  | .int i => some i
  | _ => none
def asBl : D → Option Bool
  | .bl b => some b
  | _ => none
def asInts : List D → Option (List Int)
  | [] => some []
  | .int i :: r => (asInts r).map (i :: ·)
  | _ :: _ => none
def asBls : List D → Option (List Bool)
  | [] => some []
  | .bl i :: r => (asBls r).map (i :: ·)
  | _ :: _ => none
def primF : Prim → List D → Option (D × Bool)
  | .len, [.lst xs] => some (.int xs.length, false)
  | .len, [.tup xs] => some (.int xs.length, false)
  | .len, [.str z] => if z.length ≤ lim then some (.int z.length, false) else none
  | .all, [.lst xs] => (asBls xs).map fun bs => (.bl (bs.all id), false)
  | .any, [.lst xs] => (asBls xs).map fun bs => (.bl (bs.any id), false)
  | .tuple, [.lst xs] => some (.tup xs, false)
  | .tuple, [.tup xs] => some (.tup xs, false)
  | .list, [.lst xs] => some (.lst xs, true)
  | .list, [.tup xs] => some (.lst xs, true)
  | .min2, [.int i, .int j] => some (.int (if j < i then j else i), false)
  | .max2, [.int i, .int j] => some (.int (if j > i then j else i), false)
  | _, _ => none
def tyOf : D → Ty → Option Bool
  | _, .cls _ => none
  | .non, _ => some false
  | .bl _, .bool => some true
  | .bl _, .int => some true
  | .bl _, _ => some false
  | .int _, .int => some true
  | .int _, _ => some false
  | .str _, .str => some true
  | .str _, _ => some false
  | .tup _, .tuple => some true
  | .tup _, _ => some false
  | .lst _, .list => some true
  | .lst _, _ => some false
  | .dic _, .dict => some true
  | .dic _, _ => some false
  | .obj _, _ => none
  | .fz _, _ => none

/-! ### states -/
inductive AV where
  | val (d : D) (fr : Bool)
  | pl (x : Pl)
structure R where
  d : D
  fr : Bool
  en : Stt
structure Ret where
  d : D
  fr : Bool
  outs : List D
  obs : List Ob
/-- what a def does: its parameters, the objects; what it answers -/
abbrev FnSem := List D → List Ob → Option Ret
/-- the defs: which parameters they change; whether they change objects -/
structure Tab where
  io : Nat → List Bool
  ob : Nat → Bool
  kp : Nat → Bool               -- a def whose answers hold no list of the caller's
  mt : Nat → Nat → Nat          -- class, method: the def
  ini : Nat → Nat               -- class: its __init__
  nf : Nat                      -- how many attribute names there are

def Slot.dat : Slot → Option D
  | .no => none
  | .sh d => some d
  | .ow d => some d
  | .io d => some d
def Slot.upd (s : Slot) (d : D) : Slot := match s with
  | .no => .no
  | .sh _ => .sh d
  | .ow _ => .ow d
  | .io _ => .io d
def AV.dat (en : Stt) : AV → Option D
  | .val d _ => some d
  | .pl x => (en.at x).dat
/-- the local name i is not a lent parameter -/
def canPut (en : Stt) (i : Nat) : Bool := match en.loc[i]? with
  | some (.io _) => false
  | some _ => true
  | none => false
def putO (en : Stt) (i : Nat) (fr : Bool) (d : D) : Option Stt := if canPut en i then some (put en i fr d) else none
def putL (en : Stt) : List Nat → List D → Option Stt
  | [], [] => some en
  | i :: is, d :: ds => match putO en i false d with
    | some en' => putL en' is ds
    | none => none
  | _, _ => none
def asgTg (en : Stt) (d : D) : Tg → Option Stt
  | .nm i => putO en i false d
  | .tp is => match d with
    | .tup ds => putL en is ds
    | .lst ds => putL en is ds
    | _ => none
/-- forget the names of a comprehension's own -/
def wipeE : List Slot → List Nat → List Slot
  | l, [] => l
  | l, v :: vs => (wipeE l vs).set v .no
def backE (l0 l : List Slot) : List Nat → List Slot
  | [] => l
  | v :: vs => (backE l0 l vs).set v (match l0[v]? with | some (.sh d) => .sh d | _ => .no)

open Classical in
noncomputable def chkOk (c : Option (Pl × List D)) (en : Stt) : Bool := match c with
  | none => true
  | some (x, ds) => if (en.at x).dat = some (.lst ds) then true else false
noncomputable def lcLp (g : D → Stt → Option Stt) (t : Stt → Option (Bool × Stt)) (f : Stt → Option R) (c : Option (Pl × List D)) : List D → Stt → Option (List D × Stt)
  | [], en => if chkOk c en then some ([], en) else none
  | x :: xs, en => if chkOk c en then
      match g x en with
      | some en1 => match t en1 with
        | some (true, en2) => match f en2 with
          | some r => match lcLp g t f c xs r.en with
            | some (ys, en3) => some (r.d :: ys, en3)
            | none => none
          | none => none
        | some (false, en2) => lcLp g t f c xs en2
        | none => none
      | none => none
    else none
inductive Fl where
  | nx | bk | ct | rt (d : D) (fr : Bool)
noncomputable def forLp (g : D → Stt → Option Stt) (f : Stt → Option (Fl × Stt)) (c : Option (Pl × List D)) : List D → Stt → Option (Fl × Stt)
  | [], en => if chkOk c en then some (.nx, en) else none
  | x :: xs, en => if chkOk c en then
      match g x en with
      | some en1 => match f en1 with
        | some (.nx, en2) => forLp g f c xs en2
        | some (.ct, en2) => forLp g f c xs en2
        | some (.bk, en2) => some (.nx, en2)
        | some (.rt d fr, en2) => some (.rt d fr, en2)
        | none => none
      | none => none
    else none
def whlLp (c : Stt → Option (Bool × Stt)) (f : Stt → Option (Fl × Stt)) : Nat → Stt → Option (Fl × Stt)
  | 0, _ => none
  | n + 1, en => match c en with
    | some (true, en1) => match f en1 with
      | some (.nx, en2) => whlLp c f n en2
      | some (.ct, en2) => whlLp c f n en2
      | some (.bk, en2) => some (.nx, en2)
      | some (.rt d fr, en2) => some (.rt d fr, en2)
      | none => none
    | some (false, en1) => some (.nx, en1)
    | none => none

/-- no list, no dict within -/
def imm : Nat → D → Bool
  | n + 1, .tup xs => xs.all (imm n)
  | 0, .tup _ => false
  | _, .lst _ => false
  | _, .dic _ => false
  | _, .fz _ => false
  | _, _ => true
def parts : D → List D
  | .lst xs => xs
  | .dic kvs => kvs.map (·.2)
  | _ => []
def immP (d : D) : Bool := (parts d).all (imm 40)
def keepOk (r : Ret) : Bool := (if r.fr then immP r.d else imm 40 r.d) && r.outs.all immP
/-- no object within -/
def noO : Nat → D → Bool
  | n + 1, .tup xs => xs.all (noO n)
  | 0, .tup _ => false
  | n + 1, .lst xs => xs.all (noO n)
  | 0, .lst _ => false
  | n + 1, .dic kvs => kvs.all fun p => noO n p.1 && noO n p.2
  | 0, .dic _ => false
  | _, .obj _ => false
  | _, .fz _ => false
  | _, _ => true
/-- lent places take their new contents -/
def ioC : List AV → List Bool → List D → Stt → Option Stt
  | [], [], [], en => some en
  | .pl (.loc i) :: avs, true :: io, d :: outs, en => match en.at (.loc i) with
    | .ow _ => ioC avs io outs (en.set i (.ow d))
    | .io _ => ioC avs io outs (en.set i (.io d))
    | _ => none
  | .val _ true :: avs, true :: io, _ :: outs, en => ioC avs io outs en
  | _ :: avs, false :: io, outs, en => ioC avs io outs en
  | _, _, _, _ => none
/-- how many new things are lent -/
def frN : List AV → Nat
  | [] => 0
  | .val _ true :: r => frN r + 1
  | _ :: r => frN r
def avPls : List AV → List Pl
  | [] => []
  | .pl x :: r => x :: avPls r
  | .val _ _ :: r => avPls r
def avDats (en : Stt) : List AV → Option (List D)
  | [] => some []
  | a :: r => match a.dat en, avDats en r with
    | some d, some ds => some (d :: ds)
    | _, _ => none
def callF (T : Tab) (Φ : Nat → FnSem) (f : Nat) (avs : List AV) (en : Stt) : Option R :=
  if (avPls avs).Nodup ∧ frN avs ≤ 1 ∧ (avPls avs).all (fun x => (en.at x).own) = true then
    match avDats en avs with
    | some ds => if T.ob f then
        match Φ f ds en.obs with
        | some r => match ioC avs (T.io f) r.outs { en with obs := r.obs } with
          | some en' => some ⟨r.d, r.fr, en'⟩
          | none => none
        | none => none
      else if ds.all (noO 40) then
        match Φ f ds [] with
        | some r => if noO 40 r.d && r.outs.all (noO 40) && (!(T.kp f) || keepOk r) then
            match ioC avs (T.io f) r.outs en with
            | some en' => some ⟨r.d, r.fr, en'⟩
            | none => none
          else none
        | none => none
      else none
    | none => none
  else none
def chars (z : Str) : List D := z.cps.toList.map fun c => .str ⟨#[c]⟩
/-- a value's items when it is walked -/
def itemsD : D → Option (List D)
  | .lst xs => some xs
  | .tup xs => some xs
  | .str z => if z.cps.size ≤ lim then some (chars z) else none
  | _ => none
def rngL (a b : Int) : List D := (List.range (b - a).toNat).map fun k => .int (a + (k : Nat))
def pairsL (xs ys : List D) : List D := List.zipWith (fun a b => .tup [a, b]) xs ys
def enmL (xs : List D) : List D := (List.range xs.length).zipWith (fun i x => .tup [.int (i : Nat), x]) xs
end Py
/-! The judgements over data; names, constants, tuples, lists, operators. -/
namespace Py
open PySem PySem.Spec PyProof.Rows L2

theorem len_inv {X : Cx} {pins : List (Addr × Obj)} {σ : L2.St} {H : Hp} {s : Shared} (I : Inv X pins σ H s) : LenOk X.K H := fun a xs h => by
  rcases h with h | h
  · obtain ⟨_, _, _, h⟩ := I.list h; exact h
  · obtain ⟨_, _, _, h⟩ := I.tuple h; exact h
theorem pe_imp {X : Cx} {e : Expr} {t t' : TE} (h : PE X e t) (imp : ∀ σ H Q, LenOk X.K H → t' σ H Q → t σ H fun v H1 => LenOk X.K H1 → Q v H1) : PE X e t' :=
  ⟨fun pins s σ H Q I w => thn (h.run pins s σ H _ I (imp σ H Q (len_inv I) w)) fun u s' ⟨v, H', I', r, q⟩ => ⟨v, H', I', r, q (len_inv I')⟩⟩
theorem pt_imp {X : Cx} {e : Expr} {t t' : TT} (h : PT X e t) (imp : ∀ σ H Q, LenOk X.K H → t' σ H Q → t σ H fun v H1 => LenOk X.K H1 → Q v H1) : PT X e t' :=
  ⟨fun pins s σ H Q I w => thn (h.run pins s σ H _ I (imp σ H Q (len_inv I) w)) fun u s' ⟨H', I', q⟩ => ⟨H', I', q (len_inv I')⟩⟩
theorem pa_imp {X : Cx} {es : List Expr} {t t' : TA} (h : PA X es t) (imp : ∀ σ H Q, LenOk X.K H → t' σ H Q → t σ H fun v H1 => LenOk X.K H1 → Q v H1) : PA X es t' :=
  ⟨fun pos pins s σ H Q I w => thn (h.run pos pins s σ H _ I (imp σ H Q (len_inv I) w)) fun u s' ⟨v, H', I', r, q⟩ => ⟨v, H', I', r, q (len_inv I')⟩⟩
def eLen (K : PySem.W.Frag) (D : Ends) : Ends := ⟨fun σ H => LenOk K H → D.nx σ H, fun v H => LenOk K H → D.rt v H, fun σ H => LenOk K H → D.bk σ H, fun σ H => LenOk K H → D.ct σ H⟩
theorem sp_len {X : Cx} {pins : List (Addr × Obj)} {D : Ends} {f : Flow} {s' : Shared} (h : SP X pins (eLen X.K D) f s') : SP X pins D f s' := by
  cases f with
  | next => obtain ⟨σ', H', I, q⟩ := h; exact ⟨σ', H', I, q (len_inv I)⟩
  | brk => obtain ⟨σ', H', I, q⟩ := h; exact ⟨σ', H', I, q (len_inv I)⟩
  | cont => obtain ⟨σ', H', I, q⟩ := h; exact ⟨σ', H', I, q (len_inv I)⟩
  | ret u => obtain ⟨v, σ', H', I, r, q⟩ := h; exact ⟨v, σ', H', I, r, q (len_inv I)⟩
theorem ps_imp {X : Cx} {e : Stmt} {t t' : TS} (h : PS X e t) (imp : ∀ D σ H, LenOk X.K H → t' D σ H → t (eLen X.K D) σ H) : PS X e t' :=
  ⟨fun pins s σ H D I w => thn (h.run pins s σ H _ I (imp D σ H (len_inv I) w)) fun u s' q => sp_len q⟩
theorem pss_imp {X : Cx} {e : List Stmt} {t t' : TS} (h : PSs X e t) (imp : ∀ D σ H, LenOk X.K H → t' D σ H → t (eLen X.K D) σ H) : PSs X e t' :=
  ⟨fun pins s σ H D I w => thn (h.run pins s σ H _ I (imp D σ H (len_inv I) w)) fun u s' q => sp_len q⟩
theorem pi_imp {X : Cx} {tg e : Expr} {t t' : TI} (h : PI X tg e t) (imp : ∀ σ H R, LenOk X.K H → t' σ H R → t σ H fun J H1 => LenOk X.K H1 → R J H1) : PI X tg e t' :=
  ⟨fun pins s σ H R I w => thn (h.run pins s σ H _ I (imp σ H R (len_inv I) w)) fun v s1 q => thn q fun u s2 ⟨it, fp, tn, J, H', e1, I', z1, z2, z3, z4⟩ => ⟨it, fp, tn, J, H', e1, I', z1, z2, z3, z4 (len_inv I')⟩⟩

/-- a quiet step: the heap only grows -/
def QS (q : Bool) (W W' : Wd) : Prop := q = true → Sub W.H W'.H ∧ W'.A = W.A
theorem QS.refl {q : Bool} (W : Wd) : QS q W W := fun _ => ⟨Sub.refl _, rfl⟩
theorem QS.trans {q1 q2 : Bool} {W W1 W2 : Wd} (a : QS q1 W W1) (b : QS q2 W1 W2) : QS (q1 && q2) W W2 := fun h => by
  rw [Bool.and_eq_true] at h
  exact ⟨(a h.1).1.trans (b h.2).1, (b h.2).2.trans (a h.1).2⟩
theorem QS.of {q : Bool} {W W' : Wd} (p : PStep W W') : QS q W W' := fun _ => ⟨p.H, p.A⟩
theorem QS.mono {q q' : Bool} {W W' : Wd} (h : QS q W W') (i : q' = true → q = true) : QS q' W W' := fun z => h (i z)

section
variable (G : Gb)
def tD (q : Bool) (en : Stt) (r : R) : TE := fun σ H Q => ∃ W : Wd, W.H = H ∧ W.Ok ∧ Rep G W σ en ∧
  ∀ v W', Step W W' → W'.Ok → Rep G W' σ r.en → Val G W W' r.fr r.d v → QS q W W' → LenOk G.K W'.H → Q v W'.H
def AvOk (W W' : Wd) (σ : L2.St) : AV → V → Prop
  | .val d fr, v => Val G W W' fr d v
  | .pl x, v => ValAt G W' σ x v
def tArg (q : Bool) (en : Stt) (av : AV) (en' : Stt) : TE := fun σ H Q => ∃ W : Wd, W.H = H ∧ W.Ok ∧ Rep G W σ en ∧
  ∀ v W', Step W W' → W'.Ok → Rep G W' σ en' → AvOk G W W' σ av v → QS q W W' → LenOk G.K W'.H → Q v W'.H
def AvsOk (W W' : Wd) (σ : L2.St) (avs : List AV) (vs : List V) : Prop := Paired (AvOk G W W' σ) avs vs
def tArgs (q : Bool) (en : Stt) (avs : List AV) (en' : Stt) : TA := fun σ H Q => ∃ W : Wd, W.H = H ∧ W.Ok ∧ Rep G W σ en ∧
  ∀ vs W', Step W W' → W'.Ok → Rep G W' σ en' → AvsOk G W W' σ avs vs → QS q W W' → LenOk G.K W'.H → Q vs W'.H
def tLs (q : Bool) (en : Stt) (ds : List D) (en' : Stt) : TA := fun σ H Q => ∃ W : Wd, W.H = H ∧ W.Ok ∧ Rep G W σ en ∧
  ∀ vs W', Step W W' → W'.Ok → Rep G W' σ en' → DatL G W'.A W'.U ds vs → QS q W W' → LenOk G.K W'.H → Q vs W'.H
def tDT (q : Bool) (en : Stt) (b : Bool) (en' : Stt) : TT := fun σ H Q => ∃ W : Wd, W.H = H ∧ W.Ok ∧ Rep G W σ en ∧
  ∀ W', Step W W' → W'.Ok → Rep G W' σ en' → QS q W W' → LenOk G.K W'.H → Q b W'.H
end
def AV.isF : AV → Bool
  | .pl (.fld _ _) => true
  | _ => false

section
variable {G : Gb} {W W0 W1 W2 W' : Wd} {σ : L2.St} {en en' en1 en2 : Stt} {d : D} {v u : V} {av : AV} {q q1 q2 : Bool}
theorem ValAt.inj {x : Pl} (h : ValAt G W σ x v) (h' : ValAt G W σ x u) : v = u := by
  cases x with
  | loc i =>
    have h : σ[i]? = some (some v) := h
    have h' : σ[i]? = some (some u) := h'
    rw [h] at h'; cases h'; rfl
  | fld n f =>
    obtain ⟨a, C, dx, fs, x, h1, h2, h3, h4⟩ := h
    obtain ⟨a', C', dx', fs', x', k1, k2, k3, k4⟩ := h'
    rw [h1] at k1; cases k1
    rw [h2] at k2; cases k2
    rw [h3] at k3; cases k3
    rw [h4] at k4; cases k4; rfl
theorem Rep.top {x : Pl} (r : Rep G W σ en) (h : ValAt G W σ x v) (e : (en.at x).dat = some d) : Top G W d v := by
  obtain ⟨own, h1, _⟩ := r.ex
  rcases h1 x with z | ⟨u, e1, e2⟩
  · rw [z] at e; cases e
  · obtain rfl := h.inj e1
    generalize en.at x = s at e2 e
    cases s with
    | no => cases e
    | sh d' => cases e; exact .inl e2
    | ow d' => cases e; exact .inr ⟨_, e2.1, e2.2.2.2⟩
    | io d' => cases e; exact .inr ⟨_, e2.1, e2.2.2⟩
theorem AvOk.top (h : AvOk G W0 W σ av v) (r : Rep G W σ en) (e : av.dat en = some d) : Top G W d v := by
  cases av with
  | val d' fr => cases e; exact Val.top h
  | pl x => exact r.top h e
theorem AvOk.step (h : AvOk G W0 W σ av v) (st : Step W W') (hq : av.isF = true → Sub W.H W'.H ∧ W'.A = W.A) : AvOk G W0 W' σ av v := by
  cases av with
  | val d' fr => exact Val.step h st
  | pl x =>
    cases x with
    | loc i => exact h
    | fld n f =>
      obtain ⟨k1, k2⟩ := hq rfl
      obtain ⟨a, C, dx, fs, x, h1, h2, h3, h4⟩ := h
      exact ⟨a, C, dx, fs, x, by rw [k2]; exact h1, k1 _ _ h2, h3, h4⟩
theorem AvOk.back (h : AvOk G W0 W σ av v) (st : Step W1 W0) : AvOk G W1 W σ av v := by
  cases av with
  | val d' fr => exact Val.back h st
  | pl x => exact h

variable {X : Cx} (hG : G.K = X.K)
/-! ### names, constants -/
theorem getD_of {l : List Slot} {i : Nat} {s : Slot} (h : l[i]? = some s) : l.getD i .no = s := by simp [List.getD, h]
theorem Rep.loc {i : Nat} {s : Slot} (r : Rep G W σ en) (h : en.loc[i]? = some s) : s = .no ∨ ∃ v, σ[i]? = some (some v) ∧ ∃ p, SlotOk G W p s v := by
  obtain ⟨own, h1, _⟩ := r.ex
  rcases h1 (.loc i) with z | ⟨u, e1, e2⟩
  · exact .inl ((getD_of h).symm.trans z)
  · exact .inr ⟨u, e1, _, by rw [show en.at (.loc i) = s from getD_of h] at e2; exact e2⟩
theorem lt_of_get {α : Type} {l : List α} {i : Nat} {a : α} (h : l[i]? = some a) : i < l.length := (List.getElem?_eq_some_iff.mp h).1

/-- a place's list is given away -/
theorem Rep.release {x : Pl} (ok : W.Ok) (r : Rep G W σ en) (h : en.at x = .ow d) (hv : ValAt G W σ x v) :
    ∃ W', W'.H = W.H ∧ W'.A = W.A ∧ W'.Ok ∧ Step W W' ∧ Dat G W'.A W'.U d v ∧ Rep G W' σ (en.setP x (.sh d)) := by
  obtain ⟨own, h1, h2⟩ := r.ex
  rcases h1 x with z | ⟨u, e1, e2⟩
  · rw [z] at h; cases h
  · obtain rfl := hv.inj e1
    have hx : en.at x ≠ .no := fun z => by rw [z] at h; cases h
    rw [h] at e2
    obtain ⟨rfl, a2, a3, a4⟩ := e2
    obtain ⟨o, b1, b2⟩ := a4.dat
    obtain ⟨k1, k2⟩ := a4.kind b1
    have hU : W.U (own x) = none := by
      cases e : W.U (own x) with
      | none => rfl
      | some o' => exact absurd a2 (ok.sub _ _ e).2
    have sU : Sub W.U (W.share (own x) o).U := sub_upd (.inl hU)
    have hat := @at_setP en (.sh d) x hx
    refine ⟨W.share (own x) o, rfl, rfl, share_ok ok b1, share_step b1 hU a2, b2 _ _ sU ⟨[], by simp [Wd.share]⟩ upd_same, ?_⟩
    refine ⟨by rw [setP_len]; exact r.len, by rw [setP_obs]; exact r.obs, r.nod, fun n ob e => ?_, fun n f d' z => ?_, own, fun y => ?_, fun y z hy hz e => ?_⟩
    · obtain ⟨ob', e1, e2⟩ := setP_cls e
      exact ⟨by rw [← e2]; exact ((r.ob n ob' e1).share b1 k1 k2).ex⟩
    · have z : (en.setP x (.sh d)).at (.fld n f) = .ow d' := z
      rw [hat] at z
      by_cases hy : Pl.fld n f = x
      · rw [if_pos hy] at z; cases z
      · rw [if_neg hy] at z; exact r.nof n f d' z
    · rw [hat y]
      by_cases hy : y = x
      · rw [if_pos hy]; subst hy
        refine .inr ⟨.ref (own y), ?_, b2 _ _ sU ⟨[], by simp [Wd.share]⟩ upd_same⟩
        cases y with
        | loc i => exact hv
        | fld n f => exact hv
      · rw [if_neg hy]
        rcases h1 y with z | ⟨u, z1, z2⟩
        · exact .inl z
        · refine .inr ⟨u, ?_, z2.share (.inl hU) fun es z => hy (h2 y x es (by rw [h]; rfl) z)⟩
          cases y with
          | loc i => exact z1
          | fld n f => exact z1
    · rw [hat y] at hy
      rw [hat z] at hz
      by_cases h3 : y = x
      · rw [if_pos h3] at hy; cases hy
      · by_cases h4 : z = x
        · rw [if_pos h4] at hz; cases hz
        · rw [if_neg h3] at hy; rw [if_neg h4] at hz
          exact h2 y z hy hz e
include hG in
theorem d_loc {i : Nat} {x : Str} {pos : Pos} {r : R} (hN : X.N[i]? = some x) (hv : Vis X.env.scope x) (hd : (x == ("__debug__" : Str)) = false) (hcd : (x == ("__classdict__" : Str)) = false)
    (h : (match en.loc[i]? with | some (.sh d) => some (R.mk d false en) | some (.ow d) => some ⟨d, false, en.set i (.sh d)⟩ | _ => none) = some r) : PE X (.Name x pos) (tD G true en r) := by
  refine pe_imp (pe_var hN hv hd hcd) fun σ H Q hl w => ?_
  obtain ⟨W, rfl, ok, rp, k⟩ := w
  cases hs : en.loc[i]? with
  | none => rw [hs] at h; cases h
  | some s =>
    rw [hs] at h
    rcases rp.loc hs with e | ⟨v, e1, p, e2⟩
    · subst e; cases h
    · cases s with
      | no => cases h
      | io d => cases h
      | sh d =>
        cases h
        exact ⟨v, e1, fun hl1 => k v W (Step.refl W) ok rp e2 (QS.refl W) (by rw [hG]; exact hl1)⟩
      | ow d =>
        cases h
        obtain ⟨W', a1, a2, a3, a4, a5, a6⟩ := rp.release (x := .loc i) ok (getD_of hs) e1
        refine ⟨v, e1, fun hl1 => ?_⟩
        have := k v W' a4 a3 a6 a5 (fun _ => ⟨by rw [a1]; exact Sub.refl _, a2⟩) (by rw [a1, hG]; exact hl1)
        rwa [a1] at this
end
end Py
set_option maxHeartbeats 4000000
/-! tuple * int of any count. -/
namespace Py
open PySem PySem.Spec PyProof.Rows L2
theorem tmul_same (l : Addr) (items : Array Value) (n : Nat) (dd : Option Addr) (sl : Array (Option Value)) (x : Int) (u : Tok) (c0 : (decide (x < -(2 ^ 63)) || decide (x ≥ 2 ^ 63)) = false) (c1 : (items.isEmpty || x == 1) = true) :
    Meets (Builtin.«tuple.__mul__» ⟨[.ref l, .int x u], []⟩) (fun _ R s => s.heap.get? l = some ⟨.type "tuple", dd, .seq items n, sl⟩ ∧ R (.ok (.ret (Value.ref l))) s) :=
  .of_wp fun prog w A R s h => by
    obtain ⟨hp, g, d, tk, os⟩ := s
    obtain ⟨hl, h⟩ := h
    have f1 := AutoSeq1.idx_int
    wp_walk using wpAny_loadPart' hl
    repeat (first
      | (refine wpAny_ite_false (decide_eq_false (by rw [c0]; exact Bool.false_ne_true)) ?_; wp_walk using wpAny_loadPart' hl)
      | (refine wpAny_ite_true (decide_eq_true c1) ?_; wp_walk using wpAny_loadPart' hl))
    exact ⟨_, rfl, h⟩
theorem tmul_zero (l : Addr) (items : Array Value) (n : Nat) (dd : Option Addr) (sl : Array (Option Value)) (x : Int) (u : Tok) (c0 : (decide (x < -(2 ^ 63)) || decide (x ≥ 2 ^ 63)) = false) (c1 : (items.isEmpty || x == 1) = false) (c2 : (decide (x ≤ 0) || items.isEmpty) = true) :
    Meets (Builtin.«tuple.__mul__» ⟨[.ref l, .int x u], []⟩) (fun _ R s => s.heap.get? l = some ⟨.type "tuple", dd, .seq items n, sl⟩ ∧
      R (.ok (.ret (Value.ref s.heap.objs.size))) { s with heap := s.heap.push { cls := Value.type "tuple", data := Data.seq #[] }, toks := s.toks }) :=
  .of_wp fun prog w A R s h => by
    obtain ⟨hp, g, d, tk, os⟩ := s
    obtain ⟨hl, h⟩ := h
    have f1 := AutoSeq1.idx_int
    wp_walk using wpAny_loadPart' hl
    repeat (first
      | (refine wpAny_ite_false (decide_eq_false (by rw [c0]; exact Bool.false_ne_true)) ?_; wp_walk using wpAny_loadPart' hl)
      | (refine wpAny_ite_false (decide_eq_false (by rw [c1]; exact Bool.false_ne_true)) ?_; wp_walk using wpAny_loadPart' hl)
      | (refine wpAny_ite_true (decide_eq_true c2) ?_; wp_walk using wpAny_loadPart' hl))
    exact ⟨_, rfl, h⟩
/-- tuple * int -/
def rRepX (K : PySem.W.Frag) : R2 := fun x y H Q => ∃ l k xs, x = .ref l ∧ y = .int k ∧ SqT K H l xs ∧ -1000 ≤ k ∧ k ≤ 1000 ∧ xs.length ≤ 1000 ∧
  (xs = [] ∨ k = 1 → Q (.ref l) H) ∧ (xs ≠ [] → k ≠ 1 → ∀ p, H p = none → Q (.ref p) (upd H p (.tup (List.replicate k.toNat xs).flatten)))
section
variable {X : Cx}
theorem op_repX : OpR X (binaryOp .Mult) (rRepX X.K) := by
  intro pins s σ H x y v u Q I rx ry h
  obtain ⟨l, k, xs, rfl, rfl, hT, h1, h2, hz, q1, q2⟩ := h
  by_cases hk : 2 ≤ k ∧ xs ≠ []
  · exact op_repT pins s σ H _ _ v u Q I rx ry ⟨l, k, xs, rfl, rfl, hT, hk.2, hk.1, h2, hz, q2 hk.2 (by omega)⟩
  cases rx
  obtain ⟨t, rfl⟩ := ry
  obtain ⟨its, r, ⟨⟨cls, dd, data, sl⟩, ho, hc, n, hd⟩, hs⟩ := I.tuple hT
  simp only at hc hd
  subst hc hd
  have hle : its.length = xs.length := r.length.symm
  have c0 : (decide (k < -(2 ^ 63)) || decide (k ≥ 2 ^ 63)) = false := by rw [decide_eq_false (by omega), decide_eq_false (by omega)]; rfl
  have hem : its.toArray.isEmpty = decide (xs = []) := by
    cases xs with
    | nil => rw [List.eq_nil_of_length_eq_zero hle]; rfl
    | cons a b =>
      cases its with
      | nil => cases hle
      | cons c d => rfl
  refine wpAny_binaryOp_repeat_ref (T := "tuple") (U := "int") (by decide) ⟨_, ho, rfl⟩ (fun s' => typeIs_int s' k t) noFill_tuple_mul F.fills_int_mul F.slot_int_rmul repeat_tuple F.slot_int_index.lookup
    (call_meets F.slot_int_rmul (typeIs_int s k t) F.entry_int_rmul (F.args_int_rmul_2 _ _) (int_rmul_tuple k t l its.toArray n dd sl) ⟨ho, rfl, ⟨_, ho, rfl⟩, ?_⟩)
  by_cases he : xs = [] ∨ k = 1
  · refine call_meets F.slot_tuple_mul ⟨_, ho, rfl⟩ F.entry_tuple_mul (F.args_tuple_mul_2 _ _) (tmul_same l its.toArray n dd sl k t c0 ?_) ⟨ho, .ref l, H, I, rfl, q1 he⟩
    rw [hem]
    rcases he with he | he
    · rw [decide_eq_true he]; rfl
    · subst he; rw [Bool.or_eq_true]; exact .inr (by decide)
  · have hx : xs ≠ [] := fun e => he (.inl e)
    have hk1 : k ≠ 1 := fun e => he (.inr e)
    have hk0 : k ≤ 0 := by
      have : ¬ 2 ≤ k := fun e => hk ⟨e, hx⟩
      omega
    refine call_meets F.slot_tuple_mul ⟨_, ho, rfl⟩ F.entry_tuple_mul (F.args_tuple_mul_2 _ _) (tmul_zero l its.toArray n dd sl k t c0 (by rw [hem, decide_eq_false hx, Bool.false_or]; exact beq_eq_false_iff_ne.mpr hk1) (by rw [decide_eq_true hk0]; rfl)) ⟨ho, ?_⟩
    have q := q2 hx hk1 s.heap.objs.size (I.hok.fresh (Nat.le_refl _))
    have e0 : k.toNat = 0 := by omega
    rw [e0, List.replicate_zero, List.flatten_nil] at q
    exact ⟨.ref s.heap.objs.size, _, I.laid (t' := s.toks) (o := .tup []) (fun b ob q => Heap.get?_push_of_some _ q) (Nat.le_refl _) ⟨Nat.zero_le _, _, .nil, IsTup.new _ _⟩, rfl, q⟩
end
end Py
/-! Constants, displays, operators, comparisons, subscripts. -/
namespace Py
open PySem PySem.Spec PyProof.Rows L2
section
variable {G : Gb} {W W0 W1 W2 W' : Wd} {σ : L2.St} {en en' en1 en2 en3 : Stt} {d e r : D} {v u : V} {av x y : AV} {q q1 q2 : Bool} {X : Cx} (hG : G.K = X.K) {fr : Bool}

include hG in
theorem d_cst {e : Expr} {d : D} {w : V} (h : PE X e (tC w)) (hd : ∀ A U, Dat G A U d w) : PE X e (tD G true en ⟨d, false, en⟩) :=
  pe_imp h fun σ H Q hl ⟨W, e1, ok, rp, k⟩ => by
    subst e1
    exact fun hl1 => k w W (Step.refl W) ok rp (hd _ _) (QS.refl W) (by rw [hG]; exact hl1)
theorem d_arg {e : Expr} {r : R} (h : PE X e (tD G q en r)) : PE X e (tArg G q en (.val r.d r.fr) r.en) :=
  pe_imp h fun σ H Q hl ⟨W, e1, ok, rp, k⟩ => ⟨W, e1, ok, rp, fun v W' a b c f g h => fun _ => k v W' a b c f g h⟩
include hG in
theorem d_argLoc {i : Nat} {x : Str} {pos : Pos} {s : Slot} (hN : X.N[i]? = some x) (hv : Vis X.env.scope x) (hd : (x == ("__debug__" : Str)) = false) (hcd : (x == ("__classdict__" : Str)) = false)
    (hs : en.loc[i]? = some s) (hn : s ≠ .no) : PE X (.Name x pos) (tArg G true en (.pl (.loc i)) en) :=
  pe_imp (pe_var hN hv hd hcd) fun σ H Q hl ⟨W, e1, ok, rp, k⟩ => by
    subst e1
    rcases rp.loc hs with z | ⟨v, e1, _⟩
    · exact absurd z hn
    · exact ⟨v, e1, fun hl1 => k v W (Step.refl W) ok rp e1 (QS.refl W) (by rw [hG]; exact hl1)⟩

/-! ### argument lists -/
theorem AvsOk.step {avs : List AV} {vs : List V} (st : Step W W') (hq : avs.any AV.isF = true → Sub W.H W'.H ∧ W'.A = W.A) : AvsOk G W0 W σ avs vs → AvsOk G W0 W' σ avs vs := by
  intro h
  induction h with
  | nil => exact .nil
  | cons a b ih => exact .cons (a.step st fun e => hq (by rw [List.any_cons, e]; rfl)) (ih fun z => hq (by rw [List.any_cons, z]; simp))
theorem AvsOk.back {avs : List AV} {vs : List V} (st : Step W1 W0) : AvsOk G W0 W σ avs vs → AvsOk G W1 W σ avs vs := by
  intro h
  induction h with
  | nil => exact .nil
  | cons a b ih => exact .cons (a.back st) ih
include hG in
theorem d_nil : PA X [] (tArgs G true en [] en) :=
  pa_imp (t := tNil) (pa_nil (X := X)) fun σ H Q hl ⟨W, e1, ok, rp, k⟩ => by
    subst e1
    exact fun hl1 => k [] W (Step.refl W) ok rp .nil (QS.refl W) (by rw [hG]; exact hl1)
theorem d_cons {e : Expr} {es : List Expr} {avs : List AV} (ha : PE X e (tArg G q1 en x en1)) (hr : PA X es (tArgs G q2 en1 avs en2)) (hx : x.isF = true → q2 = true)
    (hs : starEach (e :: es) X.env = (false, eval e X.env) :: starEach es X.env) : PA X (e :: es) (tArgs G (q1 && q2) en (x :: avs) en2) :=
  pa_imp (pa_cons ha hr hs) fun σ H Q hl ⟨W, e1, ok, rp, k⟩ => by
    subst e1
    refine ⟨W, rfl, ok, rp, fun v W1 st1 ok1 rp1 a1 qs1 l1 => ⟨W1, rfl, ok1, rp1, fun vs W2 st2 ok2 rp2 a2 qs2 l2 => fun _ => ?_⟩⟩
    exact k _ W2 (st1.trans ok1 st2) ok2 rp2 (.cons (a1.step st2 fun z => qs2 (hx z)) (a2.back st1)) (qs1.trans qs2) l2
include hG in
theorem d_lnil : PA X [] (tLs G true en [] en) :=
  pa_imp (t := tNil) (pa_nil (X := X)) fun σ H Q hl ⟨W, e1, ok, rp, k⟩ => by
    subst e1
    exact fun hl1 => k [] W (Step.refl W) ok rp .nil (QS.refl W) (by rw [hG]; exact hl1)
theorem d_lcons {e : Expr} {es : List Expr} {r : R} {ds : List D} (ha : PE X e (tD G q1 en r)) (hr : PA X es (tLs G q2 r.en ds en2))
    (hs : starEach (e :: es) X.env = (false, eval e X.env) :: starEach es X.env) : PA X (e :: es) (tLs G (q1 && q2) en (r.d :: ds) en2) :=
  pa_imp (pa_cons ha hr hs) fun σ H Q hl ⟨W, e1, ok, rp, k⟩ => by
    subst e1
    refine ⟨W, rfl, ok, rp, fun v W1 st1 ok1 rp1 a1 qs1 l1 => ?_⟩
    obtain ⟨W1', hh, hA, hO, sU, ok1', st1', rp1', dt⟩ := Val.shared ok1 st1 a1 rp1
    refine ⟨W1', hh, ok1', rp1', fun vs W2 st2 ok2 rp2 a2 qs2 l2 => fun _ => ?_⟩
    refine k _ W2 (st1'.trans ok1' st2) ok2 rp2 (.cons (dt.mono st2.U st2.A) a2) (fun z => ?_) l2
    have z1 := qs1 (Bool.and_eq_true_iff.mp z).1
    have z2 := qs2 (Bool.and_eq_true_iff.mp z).2
    rw [hh, hA] at z2
    exact ⟨z1.1.trans z2.1, z2.2.trans z1.2⟩

/-! ### new objects -/
theorem push_ok {p : Addr} {o : HO} (ok : W.Ok) (hp : W.H p = none) : ({ W with H := upd W.H p o } : Wd).Ok where
  sub := fun a u e => by
    obtain ⟨h1, h2⟩ := ok.sub a u e
    exact ⟨by show upd W.H p o a = _; rw [upd_ne (ne_of_none h1 hp)]; exact h1, h2⟩
  own := fun a z => by
    obtain ⟨u, h⟩ := ok.own a z
    exact ⟨u, by show upd W.H p o a = _; rw [upd_ne (ne_of_none h hp)]; exact h⟩
  bas := fun a z => by
    obtain ⟨u, h⟩ := ok.bas a z
    exact ⟨u, by show upd W.H p o a = _; rw [upd_ne (ne_of_none h hp)]; exact h⟩
theorem sub_new {H : Hp} {p : Addr} {o : HO} (hp : H p = none) : Sub H (upd H p o) := sub_upd (.inl hp)
theorem push_step {p : Addr} {o : HO} (hp : W.H p = none) : PStep W { W with H := upd W.H p o } where
  S := ⟨rfl, Sub.refl _, fun a u e _ => sub_new hp a u e, fun a u e => ⟨u, sub_new hp a u e⟩, fun _ h => h.elim .inl fun h => .inr (.inl h), ⟨[], by simp⟩⟩
  H := sub_new hp
  A := rfl
  O := fun _ h => h
/-- a new list of nobody -/
theorem new_lst {p : Addr} {ds : List D} {vs : List V} (ok : W.Ok) (hp : W.H p = none) (h : DatL G W.A W.U ds vs) :
    ∃ W', W'.H = upd W.H p (.lst vs) ∧ PStep W W' ∧ W'.Ok ∧ Val G W W' true (.lst ds) (.ref p) := by
  refine ⟨{ W with H := upd W.H p (.lst vs) }, rfl, push_step hp, push_ok ok hp, p, rfl, hp, ?_, fun z => ?_, vs, upd_same, h⟩
  · show W.U p = none
    cases e : W.U p with
    | none => rfl
    | some u => have := (ok.sub p u e).1; rw [hp] at this; cases this
  · obtain ⟨u, e⟩ := ok.own p z
    rw [hp] at e; cases e
/-- a new tuple, shared -/
theorem new_tup {p : Addr} {ds : List D} {vs : List V} (ok : W.Ok) (hp : W.H p = none) (h : DatL G W.A W.U ds vs) :
    ∃ W', W'.H = upd W.H p (.tup vs) ∧ PStep W W' ∧ W'.Ok ∧ Val G W W' false (.tup ds) (.ref p) := by
  have hU : W.U p = none := by
    cases e : W.U p with
    | none => rfl
    | some u => have := (ok.sub p u e).1; rw [hp] at this; cases this
  have hO : ¬ W.O p := fun z => by
    obtain ⟨u, e⟩ := ok.own p z
    rw [hp] at e; cases e
  have s1 : Sub W.U (upd W.U p (.tup vs)) := sub_upd (.inl hU)
  refine ⟨{ W with H := upd W.H p (.tup vs), U := upd W.U p (.tup vs) }, rfl, ⟨⟨rfl, s1, fun a u e _ => sub_new hp a u e, fun a u e => ⟨u, sub_new hp a u e⟩, fun a z => ?_, ⟨[], by simp⟩⟩, sub_new hp, rfl, fun _ z => z⟩, ⟨fun a u e => ?_, fun a z => ?_, fun a z => ?_⟩, ?_⟩
  · by_cases ha : a = p
    · subst ha; exact .inr (.inr hp)
    · rcases z with ⟨u, z⟩ | z
      · have z : upd W.U p (.tup vs) a = some u := z
        rw [upd_ne ha] at z; exact .inl ⟨u, z⟩
      · exact .inr (.inl z)
  · by_cases ha : a = p
    · subst ha
      have e : upd W.U a (.tup vs) a = some u := e
      rw [upd_same] at e; cases e
      exact ⟨upd_same, hO⟩
    · have e : upd W.U p (.tup vs) a = some u := e
      rw [upd_ne ha] at e
      exact ⟨by show upd W.H p (.tup vs) a = _; rw [upd_ne ha]; exact (ok.sub a u e).1, (ok.sub a u e).2⟩
  · obtain ⟨u, h⟩ := ok.own a z
    exact ⟨u, sub_new hp a u h⟩
  · obtain ⟨u, h⟩ := ok.bas a z
    exact ⟨u, sub_new hp a u h⟩
  · exact Dat.tup (.inl (.inl upd_same)) (h.mono s1 ⟨[], by simp⟩)
include hG in
theorem d_tup {es : List Expr} {k : Nat} {pos : Pos} {ds : List D} (h : PA X es (tLs G q en ds en')) (hl : ds.length ≤ 1000) : PE X (.Tuple es k pos) (tD G q en ⟨.tup ds, false, en'⟩) :=
  pe_imp (pe_tup h) fun σ H Q _ ⟨W, e1, ok, rp, k⟩ => by
    subst e1
    refine ⟨W, rfl, ok, rp, fun vs W1 st1 ok1 rp1 dl qs l1 => ⟨?_, fun p hp => ?_⟩⟩
    · rw [← dl.length]; exact Nat.le_of_lt (small1000 hl)
    · obtain ⟨W2, e2, ps, ok2, vl⟩ := new_tup ok1 hp dl
      intro hl2
      rw [← e2] at hl2 ⊢
      exact k _ W2 (st1.trans ok1 ps.S) ok2 (rp1.pstep ps) (vl.back st1) (fun z => ⟨(qs z).1.trans ps.H, ps.A.trans (qs z).2⟩) (by rw [hG]; exact hl2)
include hG in
theorem d_lst {es : List Expr} {pos : Pos} {ds : List D} (h : PA X es (tLs G q en ds en')) (hl : ds.length ≤ 1000) : PE X (.List es pos) (tD G q en ⟨.lst ds, true, en'⟩) :=
  pe_imp (pe_lst h) fun σ H Q _ ⟨W, e1, ok, rp, k⟩ => by
    subst e1
    refine ⟨W, rfl, ok, rp, fun vs W1 st1 ok1 rp1 dl qs l1 => ⟨?_, fun p hp => ?_⟩⟩
    · rw [← dl.length]; exact Nat.le_of_lt (small1000 hl)
    · obtain ⟨W2, e2, ps, ok2, vl⟩ := new_lst ok1 hp dl
      intro hl2
      rw [← e2] at hl2 ⊢
      exact k _ W2 (st1.trans ok1 ps.S) ok2 (rp1.pstep ps) (vl.back st1) (fun z => ⟨(qs z).1.trans ps.H, ps.A.trans (qs z).2⟩) (by rw [hG]; exact hl2)

/-! ### two operands by values -/
def Rd2 (G : Gb) (rr : R2) (d e r : D) (fr : Bool) : Prop := ∀ W v u Q, W.Ok → LenOk G.K W.H → Top G W d v → Top G W e u →
  (∀ z W', PStep W W' → W'.Ok → Val G W W' fr r z → Q z W'.H) → rr v u W.H Q
include hG in
theorem d_op {e' a b : Expr} {rr : R2} (hp : PE X e' (tOp rr (tArg G q1 en x en1) (tArg G q2 en1 y en2))) (hx : x.isF = true → q2 = true) (hd : x.dat en2 = some d) (he : y.dat en2 = some e)
    (hr : Rd2 G rr d e r fr) : PE X e' (tD G (q1 && q2) en ⟨r, fr, en2⟩) :=
  pe_imp hp fun σ H Q _ ⟨W, e1, ok, rp, k⟩ => by
    subst e1
    refine ⟨W, rfl, ok, rp, fun v W1 st1 ok1 rp1 a1 qs1 l1 => ⟨W1, rfl, ok1, rp1, fun u W2 st2 ok2 rp2 a2 qs2 l2 => ?_⟩⟩
    have a1' := a1.step st2 fun z => qs2 (hx z)
    refine hr W2 v u _ ok2 l2 (a1'.top rp2 hd) (a2.top rp2 he) fun z W3 ps ok3 vl => fun hl3 => ?_
    exact k z W3 ((st1.trans ok1 st2).trans ok2 ps.S) ok3 (rp2.pstep ps) (vl.back (st1.trans ok1 st2)) (fun z => ⟨((qs1.trans qs2) z).1.trans ps.H, ps.A.trans ((qs1.trans qs2) z).2⟩) (by rw [hG]; exact hl3)
/-! ### what stands in a world -/
theorem Cont.lst {p : Addr} {ds : List D} (h : Cont G W (.lst ds) p) : ∃ vs, W.H p = some (.lst vs) ∧ DatL G W.A W.U ds vs := h
theorem Top.int {i : Int} (h : Top G W (.int i) v) : v = .int i := by
  rcases h with h | ⟨p, _, h⟩
  · cases h; rfl
  · exact h.elim
theorem Top.bl {i : Bool} (h : Top G W (.bl i) v) : v = .bl i := by
  rcases h with h | ⟨p, _, h⟩
  · cases h; rfl
  · exact h.elim
theorem Top.str {i : Str} (h : Top G W (.str i) v) : v = .str i := by
  rcases h with h | ⟨p, _, h⟩
  · cases h; rfl
  · exact h.elim
theorem Top.non (h : Top G W .non v) : v = .non := by
  rcases h with h | ⟨p, _, h⟩
  · cases h; rfl
  · exact h.elim
theorem Wd.Ok.subH (ok : W.Ok) : Sub W.U W.H := fun p o e => (ok.sub p o e).1
theorem Top.lst {ds : List D} (ok : W.Ok) (h : Top G W (.lst ds) v) : ∃ a vs, v = .ref a ∧ W.H a = some (.lst vs) ∧ DatL G W.A W.U ds vs := by
  rcases h with h | ⟨p, e, h⟩
  · cases h with
    | lst h1 h2 => exact ⟨_, _, rfl, ok.subH _ _ h1, h2⟩
  · obtain ⟨vs, h1, h2⟩ := h; exact ⟨p, vs, e, h1, h2⟩
theorem Top.fz {ds : List D} (ok : W.Ok) (h : Top G W (.fz ds) v) : ∃ a vs, v = .ref a ∧ SqL G.K W.H a vs ∧ DatL G W.A W.U ds vs := by
  rcases h with h | ⟨p, e, h⟩
  · cases h with
    | fz h1 h2 => exact ⟨_, _, rfl, ok.subH.sql h1, h2⟩
  · exact h.elim
theorem Top.tup {ds : List D} (ok : W.Ok) (h : Top G W (.tup ds) v) : ∃ a vs, v = .ref a ∧ SqT G.K W.U a vs ∧ SqT G.K W.H a vs ∧ DatL G W.A W.U ds vs := by
  rcases h with h | ⟨p, e, h⟩
  · cases h with
    | tup h1 h2 => exact ⟨_, _, rfl, h1, ok.subH.sqt h1, h2⟩
  · exact h.elim
theorem val_same (h : Dat G W.A W.U d v) : Val G W W false d v := h
theorem rep_map {α : Type} (vs : List α) : ∀ k, (List.replicate k vs).flatten.length = k * vs.length
  | 0 => by simp
  | k + 1 => by rw [List.replicate_succ, List.flatten_cons, List.length_append, rep_map vs k, Nat.succ_mul, Nat.add_comm]
theorem DatL.rep {A : List Addr} {U : Hp} {ds : List D} {vs : List V} (h : DatL G A U ds vs) : ∀ k : Nat, DatL G A U (List.replicate k ds).flatten (List.replicate k vs).flatten
  | 0 => .nil
  | k + 1 => by rw [List.replicate_succ, List.replicate_succ, List.flatten_cons, List.flatten_cons]; exact h.append (DatL.rep h k)
include hG in
theorem bin_ok {o : Operator} (h : binD o d e = some (r, fr)) : ∃ rr, OpR X (binaryOp o) rr ∧ Rd2 G rr d e r fr := by
  have i0 : ∀ {g : Int → Int → V} {i j : Int} {r : D}, (∀ A U, Dat G A U r (g i j)) → Rd2 G (rI0 g) (.int i) (.int j) r false := fun hr W v u Q ok hl h1 h2 k =>
    ⟨_, _, h1.int, h2.int, k _ W (PStep.refl W) ok (hr _ _)⟩
  have i1 : ∀ {C : Int → Int → Prop} {g : Int → Int → V} {i j : Int} {r : D}, C i j → (∀ A U, Dat G A U r (g i j)) → Rd2 G (rI C g) (.int i) (.int j) r false := fun hc hr W v u Q ok hl h1 h2 k =>
    ⟨_, _, h1.int, h2.int, hc, k _ W (PStep.refl W) ok (hr _ _)⟩
  unfold binD at h
  split at h
  · cases h; exact ⟨_, op_add, i0 fun _ _ => .int _⟩
  · split at h
    · cases h
      refine ⟨_, op_add_str, fun W v u Q ok hl h1 h2 k => ⟨_, _, h1.str, h2.str, by rw [← lim_line]; assumption, k _ W (PStep.refl W) ok (Dat.str _)⟩⟩
    · cases h
  · rename_i xs ys
    split at h
    · rename_i hz
      cases h
      refine ⟨_, op_catA, fun W v u Q ok hl h1 h2 k => ?_⟩
      obtain ⟨a, vs, rfl, su, sh, dl⟩ := h1.tup ok
      obtain ⟨b, us, rfl, su', sh', dl'⟩ := h2.tup ok
      refine ⟨a, b, vs, us, rfl, rfl, by rw [← hG]; exact sh, by rw [← hG]; exact sh', by rw [← dl.length, ← dl'.length, ← lim_line]; exact hz, fun z => ?_, fun _ z => ?_, fun _ _ p hp => ?_⟩
      · subst z; cases dl
        exact k _ W (PStep.refl W) ok (Dat.tup su' dl')
      · subst z; cases dl'
        rw [List.append_nil] at k
        exact k _ W (PStep.refl W) ok (Dat.tup su dl)
      · obtain ⟨W2, e2, ps, ok2, vl⟩ := new_tup ok hp (dl.append dl')
        rw [← e2]
        exact k _ W2 ps ok2 vl
    · cases h
  · rename_i xs ys
    by_cases hz : xs.length + ys.length ≤ lim
    · rw [if_pos hz] at h; cases h
      refine ⟨_, op_cat, fun W v u Q ok hl h1 h2 k => ?_⟩
      obtain ⟨a, vs, rfl, sh, dl⟩ := h1.lst ok
      obtain ⟨b, us, rfl, sh', dl'⟩ := h2.lst ok
      refine ⟨a, b, vs, us, rfl, rfl, sh, sh', by rw [← dl.length, ← dl'.length, ← lim_line]; exact hz, fun p hp => ?_⟩
      obtain ⟨W2, e2, ps, ok2, vl⟩ := new_lst ok hp (dl.append dl')
      rw [← e2]
      exact k _ W2 ps ok2 vl
    · rw [if_neg hz] at h; cases h
  · cases h; exact ⟨_, op_sub, i0 fun _ _ => .int _⟩
  · rename_i i j
    by_cases hz : mulOk i j
    · rw [if_pos hz] at h; cases h
      exact ⟨_, op_mul, i1 hz fun _ _ => .int _⟩
    · rw [if_neg hz] at h; cases h
  · rename_i xs j
    by_cases hz : j < 2 ^ 63 ∧ -(2 ^ 63) ≤ j ∧ xs.length * j.toNat ≤ lim
    · rw [if_pos hz] at h; cases h
      refine ⟨_, op_rep, fun W v u Q ok hl h1 h2 k => ?_⟩
      obtain ⟨a, vs, rfl, sh, dl⟩ := h1.lst ok
      refine ⟨a, j, vs, rfl, h2.int, sh, hz.2.1, hz.1, by rw [← dl.length, ← lim_line]; exact hz.2.2, fun p hp => ?_⟩
      obtain ⟨W2, e2, ps, ok2, vl⟩ := new_lst ok hp (dl.rep j.toNat)
      rw [← e2]
      exact k _ W2 ps ok2 vl
    · rw [if_neg hz] at h; cases h
  · rename_i xs j
    by_cases hz : -1000 ≤ j ∧ j ≤ 1000 ∧ xs.length ≤ 1000
    · rw [if_pos hz] at h; cases h
      refine ⟨_, op_repX, fun W v u Q ok hl h1 h2 k => ?_⟩
      obtain ⟨a, vs, rfl, su, sh, dl⟩ := h1.tup ok
      refine ⟨a, j, vs, rfl, h2.int, by rw [← hG]; exact sh, hz.1, hz.2.1, by rw [← dl.length]; exact hz.2.2, fun z => ?_, fun _ _ p hp => ?_⟩
      · have er : repD xs j = xs := by
          unfold repD
          rcases z with z | z
          · subst z
            have : xs = [] := by cases dl; rfl
            subst this
            exact List.flatten_eq_nil_iff.mpr fun l hl => (List.mem_replicate.mp hl).2
          · subst z; simp
        rw [er] at k
        exact k _ W (PStep.refl W) ok (Dat.tup su dl)
      · obtain ⟨W2, e2, ps, ok2, vl⟩ := new_tup ok hp (dl.rep j.toNat)
        rw [← e2]
        exact k _ W2 ps ok2 vl
    · rw [if_neg hz] at h; cases h
  · rename_i i j
    by_cases hz : j ≠ 0 ∧ j.natAbs < 1073741824
    · rw [if_pos hz] at h; cases h
      exact ⟨_, op_fdivN, i1 hz fun _ _ => .int _⟩
    · rw [if_neg hz] at h; cases h
  · rename_i i j
    by_cases hz : j ≠ 0
    · rw [if_pos hz] at h; cases h
      exact ⟨_, op_modN, i1 hz fun _ _ => .int _⟩
    · rw [if_neg hz] at h; cases h
  · rename_i i j
    by_cases hz : 0 ≤ j ∧ j ≤ 1000000 ∧ i.natAbs < 2 ^ 64
    · rw [if_pos hz] at h; cases h
      exact ⟨_, op_pow, i1 hz fun _ _ => .int _⟩
    · rw [if_neg hz] at h; cases h
  · cases h
end
end Py
/-! Comparisons, subscripts, built-ins, isinstance, tests. -/
namespace Py
open PySem PySem.Spec PyProof.Rows L2
mutual
def toPy : D → PyData
  | .non => .none
  | .bl b => .bool b
  | .int i => .int i
  | .str x => .str x
  | .tup xs => .tuple (toPys xs)
  | .lst xs => .list (toPys xs)
  | .dic kvs => .dict (toPyk kvs)
  | .obj _ => .none
  | .fz _ => .none
def toPys : List D → List PyData
  | [] => []
  | x :: xs => toPy x :: toPys xs
def toPyk : List (D × D) → List (PyData × PyData)
  | [] => []
  | (k, v) :: xs => (toPy k, toPy v) :: toPyk xs
end
theorem okE_all {n : Nat} {x : D} {xs : List D} (h : (x :: xs).all (okE n) = true) : okE n x = true ∧ xs.all (okE n) = true := by
  rw [List.all_cons, Bool.and_eq_true] at h; exact h
theorem okE_tup {n : Nat} {xs : List D} (h : okE n (.tup xs) = true) : ∃ m, n = m + 1 ∧ xs.all (okE m) = true := by
  cases n with
  | zero => exact nomatch h
  | succ m => exact ⟨m, rfl, h⟩
theorem okE_lst {n : Nat} {xs : List D} (h : okE n (.lst xs) = true) : ∃ m, n = m + 1 ∧ xs.all (okE m) = true := by
  cases n with
  | zero => exact nomatch h
  | succ m => exact ⟨m, rfl, h⟩
theorem okE_no {n : Nat} {d : D} (h : okE n d = true) : (∀ x, d ≠ .dic x) ∧ (∀ x, d ≠ .obj x) ∧ ∀ x, d ≠ .fz x := by
  cases d <;> refine ⟨fun x e => ?_, fun x e => ?_, fun x e => ?_⟩ <;> cases e <;> (cases n <;> exact nomatch h)
mutual
theorem can_of : ∀ (d : D) (n : Nat), okE n d = true → (toPy d).canLay0 = true ∧ (toPy d).depth ≤ n
  | .non, _, _ => ⟨by simp [toPy, PyData.canLay0], by simp [toPy, PyData.depth]⟩
  | .bl b, _, _ => ⟨by simp [toPy, PyData.canLay0], by simp [toPy, PyData.depth]⟩
  | .int i, _, _ => ⟨by simp [toPy, PyData.canLay0], by simp [toPy, PyData.depth]⟩
  | .str x, n, h => ⟨by have h' : PyData.strOk x = true := by cases n <;> exact h
                        simp [toPy, PyData.canLay0, h'], by simp [toPy, PyData.depth]⟩
  | .tup xs, n, h => by
    obtain ⟨m, rfl, h⟩ := okE_tup h
    obtain ⟨a, b⟩ := can_ofs xs m h
    exact ⟨by simp [toPy, PyData.canLay0, a], by simp [toPy, PyData.depth]; omega⟩
  | .lst xs, n, h => by
    obtain ⟨m, rfl, h⟩ := okE_lst h
    obtain ⟨a, b⟩ := can_ofs xs m h
    exact ⟨by simp [toPy, PyData.canLay0, a], by simp [toPy, PyData.depth]; omega⟩
  | .dic x, n, h => absurd rfl ((okE_no h).1 x)
  | .obj x, n, h => absurd rfl ((okE_no h).2.1 x)
  | .fz x, n, h => absurd rfl ((okE_no h).2.2 x)
theorem can_ofs : ∀ (xs : List D) (n : Nat), xs.all (okE n) = true → PyData.canLayAll0 (toPys xs) = true ∧ PyData.depthAll (toPys xs) ≤ n
  | [], _, _ => ⟨by simp [toPys, PyData.canLayAll0], by simp [toPys, PyData.depthAll]⟩
  | x :: xs, n, h => by
    obtain ⟨h1, h2⟩ := okE_all h
    obtain ⟨a, b⟩ := can_of x n h1
    obtain ⟨c, d⟩ := can_ofs xs n h2
    exact ⟨by simp [toPys, PyData.canLayAll0, a, c], by simp [toPys, PyData.depthAll]; omega⟩
end
theorem shaped_of {d : D} (h : okE 60 d = true) : SeqAt.shaped (toPy d) = true := by
  obtain ⟨a, b⟩ := can_of d 60 h
  unfold SeqAt.shaped
  rw [a, Bool.true_and]
  exact decide_eq_true (by omega)
mutual
theorem eqv_of : ∀ (d e : D) (n m : Nat), okE n d = true → okE m e = true → PyData.eqv (toPy d) (toPy e) = eqD d e
  | .tup xs, .tup ys, n, m, h, k => by
    obtain ⟨n, rfl, h⟩ := okE_tup h
    obtain ⟨m, rfl, k⟩ := okE_tup k
    simp only [toPy, PyData.eqv, eqD]
    exact eqv_ofs xs ys n m h k
  | .lst xs, .lst ys, n, m, h, k => by
    obtain ⟨n, rfl, h⟩ := okE_lst h
    obtain ⟨m, rfl, k⟩ := okE_lst k
    simp only [toPy, PyData.eqv, eqD]
    exact eqv_ofs xs ys n m h k
  | .dic x, _, n, _, h, _ => absurd rfl ((okE_no h).1 x)
  | .obj x, _, n, _, h, _ => absurd rfl ((okE_no h).2.1 x)
  | .fz x, _, n, _, h, _ => absurd rfl ((okE_no h).2.2 x)
  | .non, e, _, m, _, k => by cases e <;> first | (simp [toPy, PyData.eqv, eqD]; done) | exact absurd rfl ((okE_no k).1 _) | exact absurd rfl ((okE_no k).2.1 _) | exact absurd rfl ((okE_no k).2.2 _)
  | .bl b, e, _, m, _, k => by cases e <;> first | (simp [toPy, PyData.eqv, eqD]; done) | exact absurd rfl ((okE_no k).1 _) | exact absurd rfl ((okE_no k).2.1 _) | exact absurd rfl ((okE_no k).2.2 _)
  | .int b, e, _, m, _, k => by cases e <;> first | (simp [toPy, PyData.eqv, eqD]; done) | exact absurd rfl ((okE_no k).1 _) | exact absurd rfl ((okE_no k).2.1 _) | exact absurd rfl ((okE_no k).2.2 _)
  | .str b, e, _, m, _, k => by cases e <;> first | (simp [toPy, PyData.eqv, eqD]; done) | exact absurd rfl ((okE_no k).1 _) | exact absurd rfl ((okE_no k).2.1 _) | exact absurd rfl ((okE_no k).2.2 _)
  | .tup b, .non, _, m, _, k => by simp [toPy, PyData.eqv, eqD]
  | .tup b, .bl _, _, m, _, k => by simp [toPy, PyData.eqv, eqD]
  | .tup b, .int _, _, m, _, k => by simp [toPy, PyData.eqv, eqD]
  | .tup b, .str _, _, m, _, k => by simp [toPy, PyData.eqv, eqD]
  | .tup b, .lst _, _, m, _, k => by simp [toPy, PyData.eqv, eqD]
  | .tup b, .dic x, _, m, _, k => absurd rfl ((okE_no k).1 x)
  | .tup b, .obj x, _, m, _, k => absurd rfl ((okE_no k).2.1 x)
  | .tup b, .fz x, _, m, _, k => absurd rfl ((okE_no k).2.2 x)
  | .lst b, .non, _, m, _, k => by simp [toPy, PyData.eqv, eqD]
  | .lst b, .bl _, _, m, _, k => by simp [toPy, PyData.eqv, eqD]
  | .lst b, .int _, _, m, _, k => by simp [toPy, PyData.eqv, eqD]
  | .lst b, .str _, _, m, _, k => by simp [toPy, PyData.eqv, eqD]
  | .lst b, .tup _, _, m, _, k => by simp [toPy, PyData.eqv, eqD]
  | .lst b, .dic x, _, m, _, k => absurd rfl ((okE_no k).1 x)
  | .lst b, .obj x, _, m, _, k => absurd rfl ((okE_no k).2.1 x)
  | .lst b, .fz x, _, m, _, k => absurd rfl ((okE_no k).2.2 x)
theorem eqv_ofs : ∀ (xs ys : List D) (n m : Nat), xs.all (okE n) = true → ys.all (okE m) = true → PyData.eqvAll (toPys xs) (toPys ys) = eqDs xs ys
  | [], [], _, _, _, _ => by simp [toPys, PyData.eqvAll, eqDs]
  | [], _ :: _, _, _, _, _ => by simp [toPys, PyData.eqvAll, eqDs]
  | _ :: _, [], _, _, _, _ => by simp [toPys, PyData.eqvAll, eqDs]
  | x :: xs, y :: ys, n, m, h, k => by
    obtain ⟨h1, h2⟩ := okE_all h
    obtain ⟨k1, k2⟩ := okE_all k
    simp only [toPys, PyData.eqvAll, eqDs]
    rw [eqv_of x y n m h1 k1, eqv_ofs xs ys n m h2 k2]
end
section
variable {G : Gb} {W W0 W1 W2 W' : Wd} {σ : L2.St} {en en' en1 en2 en3 : Stt} {d e r : D} {v u : V} {av x y : AV} {q q1 q2 : Bool} {X : Cx} (hG : G.K = X.K) {fr : Bool}
mutual
theorem dp_of {A : List Addr} {U H : Hp} (sU : Sub U H) : ∀ (d : D) (n : Nat) (v : V), okE n d = true → Dat G A U d v → Dp G.K H v (toPy d)
  | .non, _, _, _, h => by cases h; exact .non
  | .bl b, _, _, _, h => by cases h; exact .bl b
  | .int i, _, _, _, h => by cases h; exact .int i
  | .str i, _, _, _, h => by cases h; exact .str i
  | .tup xs, n, v, k, h => by
    obtain ⟨m, rfl, k⟩ := okE_tup k
    cases h with
    | tup h1 h2 => rw [toPy]; exact .tup (sU.sqt h1) (dps_of sU xs m _ k h2)
  | .lst xs, n, v, k, h => by
    obtain ⟨m, rfl, k⟩ := okE_lst k
    cases h with
    | lst h1 h2 => rw [toPy]; exact .lst (.inl (.inl (sU _ _ h1))) (dps_of sU xs m _ k h2)
  | .dic x, n, _, h, _ => absurd rfl ((okE_no h).1 x)
  | .obj x, n, _, h, _ => absurd rfl ((okE_no h).2.1 x)
  | .fz x, n, _, h, _ => absurd rfl ((okE_no h).2.2 x)
theorem dps_of {A : List Addr} {U H : Hp} (sU : Sub U H) : ∀ (ds : List D) (n : Nat) (vs : List V), ds.all (okE n) = true → DatL G A U ds vs → DpAll G.K H vs (toPys ds)
  | [], _, _, _, h => by cases h; rw [toPys]; exact .nil
  | d :: ds, n, vs, k, h => by
    obtain ⟨k1, k2⟩ := okE_all k
    cases h with
    | cons h1 h2 => rw [toPys]; exact .cons (dp_of sU d n _ k1 h1) (dps_of sU ds n _ k2 h2)
end
theorem Top.dp {n : Nat} (ok : W.Ok) (k : okE n d = true) (h : Top G W d v) : Dp G.K W.H v (toPy d) := by
  rcases h with h | ⟨p, e, h⟩
  · exact dp_of ok.subH d n v k h
  · subst e
    cases d with
    | lst ds =>
      obtain ⟨vs, h1, h2⟩ := h
      obtain ⟨m, rfl, k⟩ := okE_lst k
      rw [toPy]
      exact .lst (.inl (.inl h1)) (dps_of ok.subH ds m _ k h2)
    | dic kds => exact absurd rfl ((okE_no k).1 kds)
    | _ => exact h.elim
theorem Top.nonB (h : Top G W d v) : decide (v = V.non) = isNonD d := by
  rcases h with h | ⟨p, e, h⟩
  · cases h <;> rfl
  · subst e
    cases d with
    | lst ds => rfl
    | dic kds => rfl
    | _ => exact h.elim
include hG in
theorem cmp_ok (hu : X.A.units + 64 < cLine) {o : CmpOp} {b : Bool} (h : cmpD o d e = some b) : ∃ rr, OpR X (compareOp o) rr ∧ Rd2 G rr d e (.bl b) false := by
  have i0 : ∀ {g : Int → Int → V} {i j : Int} {r : D}, (∀ A U, Dat G A U r (g i j)) → Rd2 G (rI0 g) (.int i) (.int j) r false := fun hr W v u Q ok hl h1 h2 k =>
    ⟨_, _, h1.int, h2.int, k _ W (PStep.refl W) ok (hr _ _)⟩
  unfold cmpD at h
  split at h
  · cases h; exact ⟨_, op_lt, i0 fun _ _ => .bl _⟩
  · cases h; exact ⟨_, op_le, i0 fun _ _ => .bl _⟩
  · cases h; exact ⟨_, op_gt, i0 fun _ _ => .bl _⟩
  · cases h; exact ⟨_, op_ge, i0 fun _ _ => .bl _⟩
  · cases h
    refine ⟨_, op_isN, fun W v u Q ok hl h1 h2 k => ⟨h2.non, ?_⟩⟩
    rw [h1.nonB]
    exact k _ W (PStep.refl W) ok (Dat.bl _)
  · cases h
    refine ⟨_, op_notN, fun W v u Q ok hl h1 h2 k => ⟨h2.non, ?_⟩⟩
    rw [h1.nonB]
    exact k _ W (PStep.refl W) ok (Dat.bl _)
  · by_cases hz : (okE 60 d && okE 60 e) = true
    · rw [if_pos hz] at h; cases h
      rw [Bool.and_eq_true] at hz
      refine ⟨_, op_eqD hu, fun W v u Q ok hl h1 h2 k => ⟨toPy d, toPy e, by rw [← hG]; exact h1.dp ok hz.1, by rw [← hG]; exact h2.dp ok hz.2, shaped_of hz.1, shaped_of hz.2, ?_⟩⟩
      rw [eqv_of d e 60 60 hz.1 hz.2]
      exact k _ W (PStep.refl W) ok (Dat.bl _)
    · rw [if_neg hz] at h; cases h
  · by_cases hz : (okE 60 d && okE 60 e) = true
    · rw [if_pos hz] at h; cases h
      rw [Bool.and_eq_true] at hz
      refine ⟨_, op_neD hu, fun W v u Q ok hl h1 h2 k => ⟨toPy d, toPy e, by rw [← hG]; exact h1.dp ok hz.1, by rw [← hG]; exact h2.dp ok hz.2, shaped_of hz.1, shaped_of hz.2, ?_⟩⟩
      rw [eqv_of d e 60 60 hz.1 hz.2]
      exact k _ W (PStep.refl W) ok (Dat.bl _)
    · rw [if_neg hz] at h; cases h
  · cases h
theorem DatL.at {A : List Addr} {U : Hp} {ds : List D} {vs : List V} {i : Int} {r : D} (h : DatL G A U ds vs) (e : atI ds i = some r) : ∃ v, atI vs i = some v ∧ Dat G A U r v := by
  unfold atI at e ⊢
  rw [← h.length]
  cases q : ixN ds.length i with
  | none => rw [q] at e; cases e
  | some j => rw [q] at e; exact h.getD e
include hG in
theorem idx_ok (h : idxD d e = some r) : ∃ rr, IxR X rr ∧ Rd2 G rr d e r false := by
  unfold idxD at h
  split at h
  · refine ⟨_, ix_list, fun W v u Q ok hl h1 h2 k => ?_⟩
    obtain ⟨a, vs, rfl, sh, dl⟩ := h1.lst ok
    obtain ⟨z, hz, dz⟩ := dl.at h
    exact ⟨a, vs, _, z, rfl, h2.int, .inl (.inl sh), hz, k _ W (PStep.refl W) ok dz⟩
  · refine ⟨_, ix_tup, fun W v u Q ok hl h1 h2 k => ?_⟩
    obtain ⟨a, vs, rfl, su, sh, dl⟩ := h1.tup ok
    obtain ⟨z, hz, dz⟩ := dl.at h
    exact ⟨a, vs, _, z, rfl, h2.int, by rw [← hG]; exact sh, hz, k _ W (PStep.refl W) ok dz⟩
  · rename_i z i
    by_cases hz : z.length ≤ lim
    · rw [if_pos hz] at h
      cases q : atI z.cps.toList i with
      | none => rw [q] at h; cases h
      | some c =>
        rw [q] at h; cases h
        exact ⟨_, ix_str, fun W v u Q ok hl h1 h2 k => ⟨z, i, c, h1.str, h2.int, by rw [← lim_line]; exact hz, q, k _ W (PStep.refl W) ok (Dat.str _)⟩⟩
    · rw [if_neg hz] at h; cases h
  · cases h

/-! ### built-ins by values -/
def Rdn (G : Gb) (rr : List V → Hp → VK → Prop) (ds : List D) (r : D) (fr : Bool) : Prop := ∀ W vs Q, W.Ok → LenOk G.K W.H → Paired (Top G W) ds vs →
  (∀ z W', PStep W W' → W'.Ok → Val G W W' fr r z → Q z W'.H) → rr vs W.H Q
theorem tops_of {avs : List AV} {vs : List V} : AvsOk G W0 W σ avs vs → Rep G W σ en → ∀ {ds}, avDats en avs = some ds → Paired (Top G W) ds vs := by
  intro h rp
  induction h with
  | nil => intro ds e; cases e; exact .nil
  | @cons a v as vs a1 a2 ih =>
    intro ds e
    unfold avDats at e
    cases h1 : a.dat en with
    | none => rw [h1] at e; cases e
    | some d =>
      cases h2 : avDats en as with
      | none => rw [h1, h2] at e; cases e
      | some ds' =>
        rw [h1, h2] at e; cases e
        exact .cons (a1.top rp h1) (ih h2)
include hG in
theorem d_prim {e' : Expr} {rr : List V → Hp → VK → Prop} {avs : List AV} {ds : List D} (hp : PE X e' (tCB rr (tArgs G q en avs en'))) (hd : avDats en' avs = some ds) (hr : Rdn G rr ds r fr) : PE X e' (tD G q en ⟨r, fr, en'⟩) :=
  pe_imp hp fun σ H Q _ ⟨W, e1, ok, rp, k⟩ => by
    subst e1
    refine ⟨W, rfl, ok, rp, fun vs W1 st1 ok1 rp1 a1 qs1 l1 => ?_⟩
    refine hr W1 vs _ ok1 l1 (tops_of a1 rp1 hd) fun z W2 ps ok2 vl => fun hl2 => ?_
    exact k z W2 (st1.trans ok1 ps.S) ok2 (rp1.pstep ps) (vl.back st1) (fun z => ⟨(qs1 z).1.trans ps.H, ps.A.trans (qs1 z).2⟩) (by rw [hG]; exact hl2)
theorem pair1 {α β : Type} {R : α → β → Prop} {a : α} {bs : List β} (h : Paired R [a] bs) : ∃ b, bs = [b] ∧ R a b := by
  cases h with
  | cons h t => cases t; exact ⟨_, rfl, h⟩
theorem pair2 {α β : Type} {R : α → β → Prop} {a a' : α} {bs : List β} (h : Paired R [a, a'] bs) : ∃ b b', bs = [b, b'] ∧ R a b ∧ R a' b' := by
  cases h with
  | cons h t =>
    obtain ⟨b', e, h'⟩ := pair1 t
    subst e
    exact ⟨_, _, rfl, h, h'⟩
theorem asBls_map : ∀ {ds : List D} {bs : List Bool}, asBls ds = some bs → ds = bs.map D.bl
  | [], _, h => by cases h; rfl
  | .bl b :: r, bs, h => by
    unfold asBls at h
    cases q : asBls r with
    | none => rw [q] at h; cases h
    | some cs => rw [q] at h; cases h; rw [asBls_map q]; rfl
  | .non :: _, _, h => nomatch h
  | .int _ :: _, _, h => nomatch h
  | .str _ :: _, _, h => nomatch h
  | .tup _ :: _, _, h => nomatch h
  | .lst _ :: _, _, h => nomatch h
  | .dic _ :: _, _, h => nomatch h
  | .obj _ :: _, _, h => nomatch h
  | .fz _ :: _, _, h => nomatch h
theorem datL_bls {A : List Addr} {U : Hp} : ∀ {bs : List Bool} {vs : List V}, DatL G A U (bs.map D.bl) vs → vs = bs.map V.bl
  | [], _, h => by cases h; rfl
  | b :: r, _, h => by cases h with | cons h t => cases h; rw [datL_bls t]; rfl
/-- which value a built-in's name holds -/
def Prim.val : Prim → Value
  | .tuple => .type "tuple"
  | .list => .type "list"
  | .dict => .type "dict"
  | .int => .type "int"
  | .len => .builtin "len"
  | .all => .builtin "all"
  | .any => .builtin "any"
  | .min2 => .builtin "min"
  | .max2 => .builtin "max"
  | .min => .builtin "min"
  | .max => .builtin "max"
  | .sum => .builtin "sum"
  | .sorted => .builtin "sorted"
  | .abs => .builtin "abs"
  | .repr => .builtin "repr"
  | _ => .none
include hG in
theorem prim_ok (hc : X.calm = true) {p : Prim} {ds : List D} (h : primF p ds = some (r, fr)) : ∃ rr, CallR X p.val rr ∧ Rdn G rr ds r fr := by
  unfold primF at h
  split at h
  · cases h
    refine ⟨_, call_len_seq, fun W vs Q ok hl tp k => ?_⟩
    obtain ⟨b, rfl, t⟩ := pair1 tp
    obtain ⟨a, vs, rfl, sh, dl⟩ := t.lst ok
    refine ⟨a, vs, rfl, .inl (.inl (.inl sh)), ?_⟩
    rw [← dl.length]
    exact k _ W (PStep.refl W) ok (Dat.int _)
  · cases h
    refine ⟨_, call_len_seq, fun W vs Q ok hl tp k => ?_⟩
    obtain ⟨b, rfl, t⟩ := pair1 tp
    obtain ⟨a, vs, rfl, su, sh, dl⟩ := t.tup ok
    refine ⟨a, vs, rfl, .inr (by rw [← hG]; exact sh), ?_⟩
    rw [← dl.length]
    exact k _ W (PStep.refl W) ok (Dat.int _)
  · rename_i z
    by_cases hz : z.length ≤ lim
    · rw [if_pos hz] at h; cases h
      refine ⟨_, call_len_str, fun W vs Q ok hl tp k => ?_⟩
      obtain ⟨b, rfl, t⟩ := pair1 tp
      exact ⟨z, by rw [t.str], by rw [← lim_line]; exact hz, k _ W (PStep.refl W) ok (Dat.int _)⟩
    · rw [if_neg hz] at h; cases h
  · rename_i xs
    cases q : asBls xs with
    | none => rw [q] at h; cases h
    | some bs =>
      rw [q] at h; cases h
      obtain rfl := asBls_map q
      refine ⟨_, cr_all hc, fun W vs Q ok hl tp k => ?_⟩
      obtain ⟨b, rfl, t⟩ := pair1 tp
      obtain ⟨a, vs, rfl, sh, dl⟩ := t.lst ok
      obtain rfl := datL_bls dl
      exact ⟨a, bs, rfl, .inl (.inl sh), k _ W (PStep.refl W) ok (Dat.bl _)⟩
  · rename_i xs
    cases q : asBls xs with
    | none => rw [q] at h; cases h
    | some bs =>
      rw [q] at h; cases h
      obtain rfl := asBls_map q
      refine ⟨_, cr_any hc, fun W vs Q ok hl tp k => ?_⟩
      obtain ⟨b, rfl, t⟩ := pair1 tp
      obtain ⟨a, vs, rfl, sh, dl⟩ := t.lst ok
      obtain rfl := datL_bls dl
      exact ⟨a, bs, rfl, .inl (.inl sh), k _ W (PStep.refl W) ok (Dat.bl _)⟩
  · cases h
    refine ⟨_, call_tuple_of, fun W vs Q ok hl tp k => ?_⟩
    obtain ⟨b, rfl, t⟩ := pair1 tp
    obtain ⟨a, vs, rfl, sh, dl⟩ := t.lst ok
    refine ⟨a, vs, rfl, .inl ⟨.inl (.inl sh), fun p hp => ?_⟩⟩
    obtain ⟨W2, e2, ps, ok2, vl⟩ := new_tup ok hp dl
    rw [← e2]
    exact k _ W2 ps ok2 vl
  · cases h
    refine ⟨_, call_tuple_of, fun W vs Q ok hl tp k => ?_⟩
    obtain ⟨b, rfl, t⟩ := pair1 tp
    obtain ⟨a, vs, rfl, su, sh, dl⟩ := t.tup ok
    exact ⟨a, vs, rfl, .inr ⟨by rw [← hG]; exact sh, k _ W (PStep.refl W) ok (Dat.tup su dl)⟩⟩
  · cases h
    refine ⟨_, call_list_of, fun W vs Q ok hl tp k => ?_⟩
    obtain ⟨b, rfl, t⟩ := pair1 tp
    obtain ⟨a, vs, rfl, sh, dl⟩ := t.lst ok
    refine ⟨a, vs, rfl, .inl (.inl (.inl sh)), fun p hp => ?_⟩
    obtain ⟨W2, e2, ps, ok2, vl⟩ := new_lst ok hp dl
    rw [← e2]
    exact k _ W2 ps ok2 vl
  · cases h
    refine ⟨_, call_list_of, fun W vs Q ok hl tp k => ?_⟩
    obtain ⟨b, rfl, t⟩ := pair1 tp
    obtain ⟨a, vs, rfl, su, sh, dl⟩ := t.tup ok
    refine ⟨a, vs, rfl, .inr (by rw [← hG]; exact sh), fun p hp => ?_⟩
    obtain ⟨W2, e2, ps, ok2, vl⟩ := new_lst ok hp dl
    rw [← e2]
    exact k _ W2 ps ok2 vl
  · cases h
    refine ⟨_, call_min2 hc, fun W vs Q ok hl tp k => ?_⟩
    obtain ⟨b, b', rfl, t, t'⟩ := pair2 tp
    rw [t.int, t'.int]
    exact ⟨_, _, rfl, k _ W (PStep.refl W) ok (Dat.int _)⟩
  · cases h
    refine ⟨_, call_max2 hc, fun W vs Q ok hl tp k => ?_⟩
    obtain ⟨b, b', rfl, t, t'⟩ := pair2 tp
    rw [t.int, t'.int]
    exact ⟨_, _, rfl, k _ W (PStep.refl W) ok (Dat.int _)⟩
  · cases h
end
end Py
/-! isinstance, tests, and, or, not, conditional expressions, chains. -/
namespace Py
open PySem PySem.Spec PyProof.Rows L2
def kindS : D → String
  | .non => "NoneType"
  | .bl _ => "bool"
  | .int _ => "int"
  | .str _ => "str"
  | .tup _ => "tuple"
  | .lst _ => "list"
  | .dic _ => "dict"
  | .obj _ => ""
  | .fz _ => ""
def tyS : Ty → String
  | .int => "int"
  | .str => "str"
  | .bool => "bool"
  | .tuple => "tuple"
  | .list => "list"
  | .dict => "dict"
  | .cls _ => ""
def kinds : List String := ["NoneType", "bool", "int", "str", "tuple", "list", "dict"]
def tyTab : List (String × String × Bool) := [("bool", "bool", true), ("bool", "int", true), ("int", "int", true), ("str", "str", true), ("tuple", "tuple", true), ("list", "list", true), ("dict", "dict", true)]
def tyB (k t : String) : Bool := (tyTab.any fun p => p.1 == k && p.2.1 == t)
theorem kit_all : (kinds.all fun k => ["int", "str", "bool", "tuple", "list", "dict"].all fun t => kitB k t == some (tyB k t)) = true := by decide +kernel
theorem tyOf_kit {d : D} {t : Ty} {b : Bool} (h : tyOf d t = some b) : kindS d ∈ kinds ∧ kitB (kindS d) (tyS t) = some b := by
  have key : ∀ k t, k ∈ kinds → t ∈ ["int", "str", "bool", "tuple", "list", "dict"] → kitB k t = some (tyB k t) := fun k t hk ht => by
    have := List.all_eq_true.mp (List.all_eq_true.mp kit_all k hk) t ht
    exact eq_of_beq this
  cases d <;> cases t <;> simp only [kindS, tyS] <;> first
    | (refine ⟨by decide, ?_⟩
       rw [key _ _ (by decide) (by decide)]
       rw [← h]
       decide +kernel)
    | (refine ⟨by decide, ?_⟩
       rw [key _ _ (by decide) (by decide)]
       rw [← h]
       rfl)
    | cases h
section
variable {G : Gb} {W W0 W1 W2 W' : Wd} {σ : L2.St} {en en' en1 en2 en3 : Stt} {d e r : D} {v u : V} {av x y : AV} {q q1 q2 q3 : Bool} {X : Cx} (hG : G.K = X.K) {fr : Bool} {a b c : Expr} {pos : Pos}
theorem rd_tyT {H : Hp} {K : PySem.W.Frag} {a : Addr} {xs : List V} (h : SqT K H a xs) : TyX K H (.ref a) (.type "tuple") := by
  rcases h with (h | ⟨o, h⟩) | ⟨o, its, n, h1, h2, _⟩
  · exact .base (.tup h)
  · exact .fTuple h
  · exact .kTuple h1 h2
theorem Top.ty (ok : W.Ok) (h : Top G W d v) (k : kindS d ∈ kinds) : TyX G.K W.H v (.type (kindS d)) := by
  cases d with
  | non => rw [h.non]; exact .base .non
  | bl b => rw [h.bl]; exact .base (.bl b)
  | int i => rw [h.int]; exact .base (.int i)
  | str i => rw [h.str]; exact .base (.str i)
  | tup xs => obtain ⟨a, vs, rfl, _, sh, _⟩ := h.tup ok; exact rd_tyT sh
  | lst xs => obtain ⟨a, vs, rfl, sh, _⟩ := h.lst ok; exact .base (.lst sh)
  | dic kds =>
    rcases h with h | ⟨p, e, h⟩
    · cases h with
      | dic h1 h2 => exact .base (.dK (ok.subH _ _ h1))
    · subst e
      obtain ⟨kvs, ds, h1, h2, h3⟩ := h
      exact .base (.dK h1)
  | obj n => exact absurd (show "" ∈ kinds from k) (by decide)
  | fz xs => exact absurd (show "" ∈ kinds from k) (by decide)
include hG in
theorem d_isi {p p2 : Pos} {t : Ty} {tn : Str} {bb : Bool} (ha : PE X a (tArg G q en x en')) (hd : x.dat en' = some d) (ht : tyOf d t = some bb)
    (hg : Gl X "isinstance") (hm : X.mg "isinstance" = none) (hg2 : Gl X tn) (hm2 : X.mg tn = none) (hv2 : bootBuiltins tn = some (.type (tyS t))) (hn2 : tn ≠ "__name__") (hdb2 : (tn == ("__debug__" : Str)) = false)
    (hs : starEach (a :: [.Name tn p2]) X.env = (false, eval a X.env) :: starEach [.Name tn p2] X.env) (hs2 : starEach [.Name tn p2] X.env = (false, eval (.Name tn p2) X.env) :: starEach [] X.env) :
    PE X (.Call (.Name "isinstance" p) [a, .Name tn p2] [] pos) (tD G q en ⟨.bl bb, false, en'⟩) := by
  obtain ⟨hk, hb⟩ := tyOf_kit ht
  refine pe_imp (pe_callB call_isi hg hm (by decide +kernel) (pa_cons ha (pa_cons (pe_bltn (v := .ty (tyS t)) hg2 hm2 hv2 rfl hn2 hdb2) pa_nil hs2) hs) (he := hs)) fun σ H Q _ ⟨W, e1, ok, rp, k⟩ => ?_
  subst e1
  refine ⟨W, rfl, ok, rp, fun v W1 st1 ok1 rp1 a1 qs1 l1 => ?_⟩
  refine ⟨v, .ty (tyS t), .type (kindS d), .type (tyS t), bb, rfl, .ty _, ?_, kit_ty hb, fun hl2 => ?_⟩
  · rw [← hG]; exact (a1.top rp1 hd).ty ok1 hk
  · exact k _ W1 st1 ok1 rp1 (Dat.bl _) qs1 l1
theorem kitAny_of {K : PySem.W.Frag} {k : String} : ∀ {ts : List Ty} {bs : List Bool}, Paired (fun t b => kitB k (tyS t) = some b) ts bs → PySem.W.kitAny K (.type k) (ts.map fun t => Value.type (tyS t)) = some (bs.any id)
  | _, _, .nil => rfl
  | t :: ts, b :: bs, .cons h r => by
    refine kitAny_cons (kit_ty h) (fun hb => ?_) fun hb => ?_
    · subst hb; simpa using kitAny_of r
    · subst hb; rfl
/-- the classes' names in a tuple -/
structure TyNames (X : Cx) (es : List Expr) (ts : List Ty) : Prop where
  pa : PA X es (fun _ H Q => Q (ts.map fun t => V.ty (tyS t)) H)
theorem tyn_nil : TyNames X [] [] := ⟨⟨fun pos pins s σ H Q I w => pa_nil.run pos pins s σ H Q I w⟩⟩
theorem tyn_cons {tn : Str} {p2 : Pos} {t : Ty} {es : List Expr} {ts : List Ty} (h : TyNames X es ts) (hg2 : Gl X tn) (hm2 : X.mg tn = none) (hv2 : bootBuiltins tn = some (.type (tyS t))) (hn2 : tn ≠ "__name__") (hdb2 : (tn == ("__debug__" : Str)) = false)
    (hs2 : starEach (.Name tn p2 :: es) X.env = (false, eval (.Name tn p2) X.env) :: starEach es X.env) : TyNames X (.Name tn p2 :: es) (t :: ts) :=
  ⟨⟨fun pos pins s σ H Q I w => (pa_cons (pe_bltn (v := .ty (tyS t)) hg2 hm2 hv2 rfl hn2 hdb2) h.pa hs2).run pos pins s σ H Q I w⟩⟩
include hG in
theorem d_isiT {p p2 : Pos} {es : List Expr} {k2 : Nat} {ts : List Ty} {bs : List Bool} (ha : PE X a (tArg G q en x en')) (hd : x.dat en' = some d) (ht : Paired (fun t b => tyOf d t = some b) ts bs) (hne : ts ≠ [])
    (hg : Gl X "isinstance") (hm : X.mg "isinstance" = none) (hes : TyNames X es ts) (hlen : ts.length ≤ 1000)
    (hs : starEach (a :: [.Tuple es k2 p2]) X.env = (false, eval a X.env) :: starEach [.Tuple es k2 p2] X.env) (hs2 : starEach [.Tuple es k2 p2] X.env = (false, eval (.Tuple es k2 p2) X.env) :: starEach [] X.env) :
    PE X (.Call (.Name "isinstance" p) [a, .Tuple es k2 p2] [] pos) (tD G q en ⟨.bl (bs.any id), false, en'⟩) := by
  have hk : kindS d ∈ kinds ∧ Paired (fun t b => kitB (kindS d) (tyS t) = some b) ts bs := by
    constructor
    · cases ht with
      | nil => exact absurd rfl hne
      | cons h r => exact (tyOf_kit h).1
    · exact Paired.mapP ht fun t b h => (tyOf_kit h).2
  refine pe_imp (pe_callB call_isiT hg hm (by decide +kernel) (pa_cons ha (pa_cons (pe_tup hes.pa) pa_nil hs2) hs) (he := hs)) fun σ H Q _ ⟨W, e1, ok, rp, k⟩ => ?_
  subst e1
  refine ⟨W, rfl, ok, rp, fun v W1 st1 ok1 rp1 a1 qs1 l1 => ⟨?_, fun p hp => ?_⟩⟩
  · rw [List.length_map]; exact Nat.le_of_lt (small1000 hlen)
  · have ps : PStep W1 { W1 with H := upd W1.H p (.tup (ts.map fun t => V.ty (tyS t))) } := push_step hp
    have ok2 : ({ W1 with H := upd W1.H p (.tup (ts.map fun t => V.ty (tyS t))) } : Wd).Ok := push_ok ok1 hp
    have cls : ∀ ts : List Ty, Paired ClsV (ts.map fun t => V.ty (tyS t)) (ts.map fun t => Value.type (tyS t)) := fun ts => by
      induction ts with
      | nil => exact .nil
      | cons t ts ih => exact .cons (.ty _) ih
    refine ⟨v, p, _, .type (kindS d), ts.map fun t => Value.type (tyS t), _, rfl, upd_same, cls ts, ?_, kitAny_of hk.2, fun hl2 => ?_⟩
    · rw [← hG]
      have t1 := (a1.top rp1 hd)
      have t2 : Top G { W1 with H := upd W1.H p (.tup (ts.map fun t => V.ty (tyS t))) } d v := by
        rcases t1 with t1 | ⟨p', e', t1⟩
        · exact .inl t1
        · exact .inr ⟨p', e', t1.pstep ps⟩
      exact t2.ty ok2 hk.1
    · exact k _ _ (st1.trans ok1 ps.S) ok2 (rp1.pstep ps) (Dat.bl _) (fun z => ⟨(qs1 z).1.trans ps.H, (qs1 z).2⟩) (by rw [hG]; exact hl2)

/-! ### tests -/
theorem Val.bl {b : Bool} (h : Val G W W' fr (.bl b) v) : v = .bl b := by
  cases fr with
  | false => cases h; rfl
  | true => obtain ⟨p, _, _, _, _, h⟩ := h; exact h.elim
theorem Val.int {b : Int} (h : Val G W W' fr (.int b) v) : v = .int b := by
  cases fr with
  | false => cases h; rfl
  | true => obtain ⟨p, _, _, _, _, h⟩ := h; exact h.elim
theorem d_test {b : Bool} (h : PE X a (tD G q en ⟨.bl b, fr, en'⟩)) (he : ∀ whole, isTrue a X.env whole = (do let v ← whole; standAt a.pos; holding [v] (truthy v))) : PT X a (tDT G q en b en') :=
  pt_imp (pt_val h he) fun σ H Q _ ⟨W, e1, ok, rp, k⟩ => by
    subst e1
    exact ⟨W, rfl, ok, rp, fun v W1 st1 ok1 rp1 a1 qs1 l1 => ⟨b, a1.bl, fun _ => k W1 st1 ok1 rp1 qs1 l1⟩⟩
include hG in
theorem d_cmpT {o : CmpOp} {rr : R2} {bb : Bool} (ho : OpR X (compareOp o) rr) (ha : PE X a (tArg G q1 en x en1)) (hb : PE X b (tArg G q2 en1 y en2)) (hx : x.isF = true → q2 = true) (hd : x.dat en2 = some d) (he : y.dat en2 = some e)
    (hr : Rd2 G rr d e (.bl bb) false) (hm : behindInMarks o b = false) : PT X (.Compare a [o] [b] pos) (tDT G (q1 && q2) en bb en2) :=
  pt_imp (pt_cmpR ho ha hb hm) fun σ H Q _ ⟨W, e1, ok, rp, k⟩ => by
    subst e1
    refine ⟨W, rfl, ok, rp, fun v W1 st1 ok1 rp1 a1 qs1 l1 => ⟨W1, rfl, ok1, rp1, fun u W2 st2 ok2 rp2 a2 qs2 l2 => ?_⟩⟩
    have a1' := a1.step st2 fun z => qs2 (hx z)
    refine hr W2 v u _ ok2 l2 (a1'.top rp2 hd) (a2.top rp2 he) fun z W3 ps ok3 vl => ⟨bb, vl.bl, fun hl3 => ?_⟩
    exact k W3 ((st1.trans ok1 st2).trans ok2 ps.S) ok3 (rp2.pstep ps) (fun z => ⟨((qs1.trans qs2) z).1.trans ps.H, ps.A.trans ((qs1.trans qs2) z).2⟩) (by rw [hG]; exact hl3)
theorem d_notT {bb : Bool} (ha : PT X a (tDT G q en bb en')) : PT X (.UnaryOp .Not a pos) (tDT G q en (!bb) en') :=
  pt_imp (pt_not ha) fun σ H Q _ ⟨W, e1, ok, rp, k⟩ => by
    subst e1
    exact ⟨W, rfl, ok, rp, fun W1 st1 ok1 rp1 qs1 l1 => fun _ => k W1 st1 ok1 rp1 qs1 l1⟩
theorem d_not {bb : Bool} (ha : PE X a (tD G q en ⟨.bl bb, fr, en'⟩)) : PE X (.UnaryOp .Not a pos) (tD G q en ⟨.bl (!bb), false, en'⟩) :=
  pe_imp (pe_not ha) fun σ H Q _ ⟨W, e1, ok, rp, k⟩ => by
    subst e1
    exact ⟨W, rfl, ok, rp, fun v W1 st1 ok1 rp1 a1 qs1 l1 => ⟨bb, a1.bl, fun _ => k _ W1 st1 ok1 rp1 (Dat.bl _) qs1 l1⟩⟩
theorem d_neg {i : Int} (ha : PE X a (tD G q en ⟨.int i, fr, en'⟩)) : PE X (.UnaryOp .USub a pos) (tD G q en ⟨.int (-i), false, en'⟩) :=
  pe_imp (pe_un un_neg ha) fun σ H Q _ ⟨W, e1, ok, rp, k⟩ => by
    subst e1
    exact ⟨W, rfl, ok, rp, fun v W1 st1 ok1 rp1 a1 qs1 l1 => ⟨i, a1.int, fun _ => k _ W1 st1 ok1 rp1 (Dat.int _) qs1 l1⟩⟩
/-! BoolOp: values and tests -/
theorem pw_imp {e : Expr} {t t' : TT} (h : PW X e t) (imp : ∀ σ H Q, LenOk X.K H → t' σ H Q → t σ H fun v H1 => LenOk X.K H1 → Q v H1) : PW X e t' :=
  ⟨fun whole pins s σ H Q I w => thn (h.run whole pins s σ H _ I (imp σ H Q (len_inv I) w)) fun u s' ⟨H', I', q⟩ => ⟨H', I', q (len_inv I')⟩⟩
theorem QS.two {q1 q2 : Bool} (a : QS q1 W W1) (b : QS q2 W1 W2) : QS (q1 && q2) W W2 := a.trans b
theorem tdt_seq {bb b2 : Bool} {t : TT} (ht : PT X a (tDT G q1 en bb en1)) {σ : L2.St} {Q : Bool → Hp → Prop} (w : tDT G (q1 && q2) en b2 en2 σ W.H Q) : True := trivial
theorem d_andT1 {rest : List Expr} {b2 : Bool} (ha : PT X a (tDT G q1 en true en1)) (hb : PW X (.BoolOp .And (b :: rest) pos) (tDT G q2 en1 b2 en2)) : PW X (.BoolOp .And (a :: b :: rest) pos) (tDT G (q1 && q2) en b2 en2) :=
  pw_imp (pw_and ha hb) fun σ H Q _ ⟨W, e1, ok, rp, k⟩ => by
    subst e1
    refine ⟨W, rfl, ok, rp, fun W1 st1 ok1 rp1 qs1 l1 => ?_⟩
    refine iteT ?_
    exact ⟨W1, rfl, ok1, rp1, fun W2 st2 ok2 rp2 qs2 l2 => fun _ => k W2 (st1.trans ok1 st2) ok2 rp2 (qs1.trans qs2) l2⟩
theorem d_andT0 {rest : List Expr} {t : TT} (ha : PT X a (tDT G q1 en false en1)) (hb : PW X (.BoolOp .And (b :: rest) pos) t) : PW X (.BoolOp .And (a :: b :: rest) pos) (tDT G q1 en false en1) :=
  pw_imp (pw_and ha hb) fun σ H Q _ ⟨W, e1, ok, rp, k⟩ => by
    subst e1
    refine ⟨W, rfl, ok, rp, fun W1 st1 ok1 rp1 qs1 l1 => ?_⟩
    refine iteF ?_
    exact fun _ => k W1 st1 ok1 rp1 qs1 l1
theorem d_orT1 {rest : List Expr} {b2 : Bool} (ha : PT X a (tDT G q1 en false en1)) (hb : PW X (.BoolOp .Or (b :: rest) pos) (tDT G q2 en1 b2 en2)) : PW X (.BoolOp .Or (a :: b :: rest) pos) (tDT G (q1 && q2) en b2 en2) :=
  pw_imp (pw_or ha hb) fun σ H Q _ ⟨W, e1, ok, rp, k⟩ => by
    subst e1
    refine ⟨W, rfl, ok, rp, fun W1 st1 ok1 rp1 qs1 l1 => ?_⟩
    refine iteF ?_
    exact ⟨W1, rfl, ok1, rp1, fun W2 st2 ok2 rp2 qs2 l2 => fun _ => k W2 (st1.trans ok1 st2) ok2 rp2 (qs1.trans qs2) l2⟩
theorem d_orT0 {rest : List Expr} {t : TT} (ha : PT X a (tDT G q1 en true en1)) (hb : PW X (.BoolOp .Or (b :: rest) pos) t) : PW X (.BoolOp .Or (a :: b :: rest) pos) (tDT G q1 en true en1) :=
  pw_imp (pw_or ha hb) fun σ H Q _ ⟨W, e1, ok, rp, k⟩ => by
    subst e1
    refine ⟨W, rfl, ok, rp, fun W1 st1 ok1 rp1 qs1 l1 => ?_⟩
    refine iteT ?_
    exact fun _ => k W1 st1 ok1 rp1 qs1 l1
theorem d_andV1 {rest : List Expr} {r : R} (ha : PE X a (tD G q1 en ⟨.bl true, fr, en1⟩)) (hb : PE X (.BoolOp .And (b :: rest) pos) (tD G q2 en1 r)) : PE X (.BoolOp .And (a :: b :: rest) pos) (tD G (q1 && q2) en r) :=
  pe_imp (pe_and ha hb) fun σ H Q _ ⟨W, e1, ok, rp, k⟩ => by
    subst e1
    refine ⟨W, rfl, ok, rp, fun v W1 st1 ok1 rp1 a1 qs1 l1 => ⟨true, a1.bl, ?_⟩⟩
    refine iteT ?_
    exact ⟨W1, rfl, ok1, rp1, fun v W2 st2 ok2 rp2 a2 qs2 l2 => fun _ => k v W2 (st1.trans ok1 st2) ok2 rp2 (a2.back st1) (qs1.trans qs2) l2⟩
theorem d_andV0 {rest : List Expr} {t : TE} (ha : PE X a (tD G q1 en ⟨.bl false, fr, en1⟩)) (hb : PE X (.BoolOp .And (b :: rest) pos) t) : PE X (.BoolOp .And (a :: b :: rest) pos) (tD G q1 en ⟨.bl false, false, en1⟩) :=
  pe_imp (pe_and ha hb) fun σ H Q _ ⟨W, e1, ok, rp, k⟩ => by
    subst e1
    refine ⟨W, rfl, ok, rp, fun v W1 st1 ok1 rp1 a1 qs1 l1 => ⟨false, a1.bl, ?_⟩⟩
    refine iteF ?_
    exact fun _ => k _ W1 st1 ok1 rp1 (Dat.bl _) qs1 l1
theorem d_orV1 {rest : List Expr} {r : R} (ha : PE X a (tD G q1 en ⟨.bl false, fr, en1⟩)) (hb : PE X (.BoolOp .Or (b :: rest) pos) (tD G q2 en1 r)) : PE X (.BoolOp .Or (a :: b :: rest) pos) (tD G (q1 && q2) en r) :=
  pe_imp (pe_or ha hb) fun σ H Q _ ⟨W, e1, ok, rp, k⟩ => by
    subst e1
    refine ⟨W, rfl, ok, rp, fun v W1 st1 ok1 rp1 a1 qs1 l1 => ⟨false, a1.bl, ?_⟩⟩
    refine iteF ?_
    exact ⟨W1, rfl, ok1, rp1, fun v W2 st2 ok2 rp2 a2 qs2 l2 => fun _ => k v W2 (st1.trans ok1 st2) ok2 rp2 (a2.back st1) (qs1.trans qs2) l2⟩
theorem d_orV0 {rest : List Expr} {t : TE} (ha : PE X a (tD G q1 en ⟨.bl true, fr, en1⟩)) (hb : PE X (.BoolOp .Or (b :: rest) pos) t) : PE X (.BoolOp .Or (a :: b :: rest) pos) (tD G q1 en ⟨.bl true, false, en1⟩) :=
  pe_imp (pe_or ha hb) fun σ H Q _ ⟨W, e1, ok, rp, k⟩ => by
    subst e1
    refine ⟨W, rfl, ok, rp, fun v W1 st1 ok1 rp1 a1 qs1 l1 => ⟨true, a1.bl, ?_⟩⟩
    refine iteT ?_
    exact fun _ => k _ W1 st1 ok1 rp1 (Dat.bl _) qs1 l1
theorem d_ite1 {r : R} {t : TE} (hc : PT X c (tDT G q1 en true en1)) (ha : PE X a (tD G q2 en1 r)) (hb : PE X b t) : PE X (.IfExp c a b pos) (tD G (q1 && q2) en r) :=
  pe_imp (pe_ifExp hc ha hb) fun σ H Q _ ⟨W, e1, ok, rp, k⟩ => by
    subst e1
    refine ⟨W, rfl, ok, rp, fun W1 st1 ok1 rp1 qs1 l1 => ?_⟩
    refine iteT ?_
    exact ⟨W1, rfl, ok1, rp1, fun v W2 st2 ok2 rp2 a2 qs2 l2 => fun _ => k v W2 (st1.trans ok1 st2) ok2 rp2 (a2.back st1) (qs1.trans qs2) l2⟩
theorem d_ite0 {r : R} {t : TE} (hc : PT X c (tDT G q1 en false en1)) (ha : PE X a t) (hb : PE X b (tD G q2 en1 r)) : PE X (.IfExp c a b pos) (tD G (q1 && q2) en r) :=
  pe_imp (pe_ifExp hc ha hb) fun σ H Q _ ⟨W, e1, ok, rp, k⟩ => by
    subst e1
    refine ⟨W, rfl, ok, rp, fun W1 st1 ok1 rp1 qs1 l1 => ?_⟩
    refine iteF ?_
    exact ⟨W1, rfl, ok1, rp1, fun v W2 st2 ok2 rp2 a2 qs2 l2 => fun _ => k v W2 (st1.trans ok1 st2) ok2 rp2 (a2.back st1) (qs1.trans qs2) l2⟩
end
end Py
/-! Defs whose callers are within no repr. -/
namespace Py
open PySem PySem.Spec PyProof.Rows L2
/-- a def keeps its promise wherever no repr is under way -/
structure FnG (P : Program) (w : World) (K : PySem.W.Frag) (mg : Str → Option Value) (base : Heap) (k : Nat) (f : Addr) (fd : FuncData) (ps : List Str) (sp : Sp) : Prop where
  len : ∀ vs H Q E, sp vs H Q E → vs.length = ps.length
  run : ∀ (A : Around) (outer : List Env) (s : Shared) (H : Hp) (args : Args) (us : List Value) (vs : List V) (Q : VK), Room k A → A.guards = some [] → Env0 P w K mg base A outer s H → BindsTo s fd args (ps.zip us) → Vals vs us → sp vs H Q E0 →
    codeAny (model P w) A (.call (.ref f) args) (CR CX0 outer P w H s Q E0) s
theorem FnG.mono {P : Program} {w : World} {K : PySem.W.Frag} {mg : Str → Option Value} {base : Heap} {j k : Nat} {f : Addr} {fd : FuncData} {ps : List Str} {sp : Sp} (F : FnG P w K mg base j f fd ps sp) (h : j ≤ k) : FnG P w K mg base k f fd ps sp :=
  ⟨F.len, fun A outer s H args us vs Q hr => F.run A outer s H args us vs Q (hr.mono h)⟩
section
variable {X : Cx} {k : Nat} {f C : Addr} {fd : FuncData} {ps : List Str} {sp : Sp} {x m : Str} {p pos : Pos} {e : Expr} {es : List Expr} {t : TA}
theorem run_fnG {pins : List (Addr × Obj)} {σ : L2.St} {H : Hp} {s : Shared} {Q : VK} {us : List Value} {vs : List V} (F : FnG X.prog X.w X.K X.mg X.base k f fd ps sp) (hr : Room k X.A) (hga : X.A.guards = some []) (hb : Binds X.K fd ps [])
    (I : Inv X pins σ H s) (r : Vals vs us) (h : sp vs H Q E0) : wpAny (model X.prog X.w) X.A (call (.ref f) us) (EP X pins σ Q) X.xe s := by
  have hl : us.length = ps.length := r.length.symm.trans (F.len _ _ _ _ h)
  have hb' := hb s us I.kIn (by rw [List.append_nil]; exact hl)
  rw [List.append_nil] at hb'
  refine wpAny_call (codeAny_mono (F.run X.A X.stack s H ⟨us, []⟩ us vs Q hr hga I.env0 hb' r h) fun z s' hq => ?_)
  match z, hq with
  | .error e, hq => exact hq.elim
  | .ok (.ret u), hq => exact I.after hq
  | .ok .next, hq => exact hq.elim
  | .ok .brk, hq => exact hq.elim
  | .ok .cont, hq => exact hq.elim
theorem pe_callG (F : FnG X.prog X.w X.K X.mg X.base k f fd ps sp) (hr : Room k X.A) (hga : X.A.guards = some []) (hg : Gl X x) (hm : X.mg x = some (.ref f)) (hk : PySem.W.keepIn X.K (.ref f) = true) (hb : Binds X.K fd ps [])
    (ha : PA X (e :: es) t) (hdb : (x == ("__debug__" : Str)) = false) (he : starEach (e :: es) X.env = (false, eval e X.env) :: starEach es X.env) (hpl : (backTo pos (starEach es X.env)).any (·.1) = false) :
    PE X (.Call (.Name x p) (e :: es) [] pos) (fun σ H Q => t σ H fun vs H1 => sp vs H1 Q E0) :=
  ⟨fun pins s σ H Q I h => wpAny_Call_Name_kw (ld_glob I hg hm (PySem.W.callWith_K (h₀ := X.base) I.ok.mod.kin hk
    (thn (ha.run pos pins s σ H _ I h) fun us s1 ⟨vs, H1, I1, r, q⟩ => ⟨I1.kIn, run_fnG F hr hga hb I1 r q⟩) he hpl) hdb)⟩
theorem pe_callG0 (F : FnG X.prog X.w X.K X.mg X.base k f fd ps sp) (hr : Room k X.A) (hga : X.A.guards = some []) (hg : Gl X x) (hm : X.mg x = some (.ref f)) (hk : PySem.W.keepIn X.K (.ref f) = true) (hb : Binds X.K fd ps [])
    (hdb : (x == ("__debug__" : Str)) = false) : PE X (.Call (.Name x p) [] [] pos) (fun σ H Q => sp [] H Q E0) :=
  ⟨fun pins s σ H Q I h => wpAny_Call_Name_kw (ld_glob I hg hm (PySem.W.callWith_K0 I.kIn hk (run_fnG (us := []) F hr hga hb I .nil h)) hdb)⟩
end
/-- a def of the text, by its body -/
theorem fnG_of {P : Program} {w : World} {K : PySem.W.Frag} {mg : Str → Option Value} {base : Heap} {k : Nat} {f : Addr} {x qual : Str} {st : Stmt} {fd : FuncData} {N ps : List Str} {sp : Sp}
    (F : L2.Fun K x qual st f fd) (S : FnScope N ps (defScope st)) (len : ∀ vs H Q E, sp vs H Q E → vs.length = ps.length)
    (hbody : ∀ (cdv : Value) (A : Around) (outer : List Env) (s : Shared) (H : Hp) (vs : List V) (Q : VK), Room k (A.deeper (envOfC qual (defScope st) s.heap.objs.size f cdv)) → A.guards = some [] → sp vs H Q E0 →
      ∃ t, PSs (cxOf CX0 P w K mg base N qual (defScope st) f cdv A outer s H E0) (defBody st) t ∧ t { nx := fun _ H' => Q .non H', rt := Q } (start N vs) H) : FnG P w K mg base (k + 1) f fd ps sp := by
  obtain ⟨oc, od, kV, doc, pm, an, cdv, ct, osl, rfl, lk, hcd⟩ := F.ex
  refine ⟨len, fun A outer s H args us vs Q hr hga e0 hb r hsp => ?_⟩
  have hl := len _ _ _ _ hsp
  have keep : ∀ b o, base.get? b = some o → s.heap.get? b = some o := fun b o e => (e0.bs b o e).1
  have KX : K.In s.heap := e0.mod.kin.keeps keep
  refine codeAny_call_function hr.depth (KX _ _ lk) rfl S.co S.gen rfl (PySem.W.codeRec_of KX hcd) (hb _ _ _ _ ?_)
  refine wpAny_newFunctionEnv_cells S.kind (fun ⟨n, v⟩ hy => ?_) fun env he s1 y => ?_
  · rcases S.par n (List.of_mem_zip hy).1 with q | q
    · exact .inl q
    · exact .inr ⟨q, PySem.W.cellsFrom_some _ _ _ (.inl q)⟩
  · subst he
    refine ⟨(e0.mod.nolimit.keeps keep).keeps y.toInCall.keep, codeAny_func ?_⟩
    obtain ⟨t, ht, hq⟩ := hbody cdv A outer s H vs Q (hr.deeper _) hga hsp
    refine wpAny_mono (ht.run [] s1 (start N vs) H _ (inv_start S hr.hd e0 hl r y) hq) (fun fl s' hs => ?_) fun e s' hs => hs
    match fl, hs with
    | .ret u, ⟨v, σ', H', J, rv, q⟩ => exact ⟨v, H', J.os, J.bare, J.base, J.hok, rv, q⟩
    | .next, ⟨σ', H', J, q⟩ => exact ⟨.non, H', J.os, J.bare, J.base, J.hok, rfl, q⟩
    | .brk, ⟨_, _, _, q⟩ => exact q.elim
    | .cont, ⟨_, _, _, q⟩ => exact q.elim
end Py
/-! Calls: a def's promise over data, what is lent and what is kept. -/
namespace Py
open PySem PySem.Spec PyProof.Rows L2
def parS : List Bool → List D → List Slot
  | true :: io, d :: ds => .io d :: parS io ds
  | false :: io, d :: ds => .sh d :: parS io ds
  | _, _ => []
def outS : List Bool → List D → List D → List Slot
  | true :: io, d :: ds, o :: outs => .io o :: outS io ds outs
  | false :: io, d :: ds, outs => .sh d :: outS io ds outs
  | _, _, _ => []
/-- a def's promise -/
def spF (G : Gb) (io : List Bool) (sem : FnSem) : Sp := fun vs H Q _ => ∃ W ds obs r, W.H = H ∧ W.Ok ∧ Rep G W (vs.map some) ⟨parS io ds, obs⟩ ∧ vs.length = io.length ∧ sem ds obs = some r ∧
  ∀ v W', Step W W' → W'.Ok → Rep G W' (vs.map some) ⟨outS io ds r.outs, r.obs⟩ → Val G W W' r.fr r.d v → Q v W'.H

theorem noO_zip {n : Nat} : ∀ {kvs : List (Key × V)} {ds : List D}, ds.length = kvs.length → (((kvs.map fun p => kD p.1).zip ds).all fun p => noO n p.1 && noO n p.2) = true → ds.all (noO n) = true := by
  intro kvs
  induction kvs with
  | nil => intro ds hl _; cases ds with
    | nil => rfl
    | cons d ds => simp at hl
  | cons p kvs ih =>
    intro ds hl h
    cases ds with
    | nil => rfl
    | cons d ds =>
      rw [List.map_cons, List.zip_cons_cons, List.all_cons, Bool.and_eq_true, Bool.and_eq_true] at h
      rw [List.all_cons, h.1.2, Bool.true_and]
      exact ih (by simpa using hl) h.2
mutual
theorem Dat.noA {G : Gb} {A A' : List Addr} {U : Hp} {d : D} {v : V} (x : Dat G A U d v) : ∀ (n : Nat), noO n d = true → Dat G A' U d v := by
  intro n h
  cases x with
  | non => exact .non
  | bl b => exact .bl b
  | int i => exact .int i
  | str x => exact .str x
  | tup a b =>
    cases n with
    | zero => exact nomatch h
    | succ n => exact .tup a (DatL.noA b n h)
  | lst a b =>
    cases n with
    | zero => exact nomatch h
    | succ n => exact .lst a (DatL.noA b n h)
  | @dic a kvs ds a b =>
    cases n with
    | zero => exact nomatch h
    | succ n => exact .dic a (DatL.noA b n (noO_zip (by rw [b.length, List.length_map]) h))
  | obj e => cases n <;> exact nomatch h
  | fz a b => cases n <;> exact nomatch h
theorem DatL.noA {G : Gb} {A A' : List Addr} {U : Hp} {ds : List D} {vs : List V} (x : DatL G A U ds vs) : ∀ (n : Nat), ds.all (noO n) = true → DatL G A' U ds vs := by
  intro n h
  cases x with
  | nil => exact .nil
  | cons a b =>
    rw [List.all_cons, Bool.and_eq_true] at h
    exact .cons (Dat.noA a n h.1) (DatL.noA b n h.2)
end
/-- what changed holds no tuple -/
def ImmSub (U U' : Hp) : Prop := ∀ p o, U p = some o → (∀ vs, o ≠ .lst vs) → (∀ k, o ≠ .dK k) → U' p = some o
theorem ImmSub.sqt {K : PySem.W.Frag} {U U' : Hp} (e : ImmSub U U') {a : Addr} {xs : List V} (h : SqT K U a xs) : SqT K U' a xs := by
  rcases h with (h | ⟨o, h⟩) | h
  · exact .inl (.inl (e _ _ h (by intro _ z; cases z) (by intro _ z; cases z)))
  · exact .inl (.inr ⟨o, e _ _ h (by intro _ z; cases z) (by intro _ z; cases z)⟩)
  · exact .inr h
mutual
theorem Dat.imm {G : Gb} {A : List Addr} {U U' : Hp} (e : ImmSub U U') : ∀ {d : D} {v : V} (n : Nat), Py.imm n d = true → Dat G A U d v → Dat G A U' d v
  | _, _, _, _, .non => .non
  | _, _, _, _, .bl b => .bl b
  | _, _, _, _, .int i => .int i
  | _, _, _, _, .str x => .str x
  | _, _, n, h, .tup a b => by
    cases n with
    | zero => exact nomatch h
    | succ n => exact .tup (e.sqt a) (DatL.imm e n h b)
  | _, _, n, h, .lst a b => by cases n <;> exact nomatch h
  | _, _, n, h, .dic a b => by cases n <;> exact nomatch h
  | _, _, n, h, .obj q => .obj q
  | _, _, n, h, .fz a b => by cases n <;> exact nomatch h
theorem DatL.imm {G : Gb} {A : List Addr} {U U' : Hp} (e : ImmSub U U') : ∀ {ds : List D} {vs : List V} (n : Nat), ds.all (Py.imm n) = true → DatL G A U ds vs → DatL G A U' ds vs
  | _, _, _, _, .nil => .nil
  | _, _, n, h, .cons a b => by
    rw [List.all_cons, Bool.and_eq_true] at h
    exact .cons (Dat.imm e n h.1 a) (DatL.imm e n h.2 b)
end
/-- how an argument is handed over: shared; kept by its owner; lent by a name; a new thing lent -/
inductive AK where
  | sh | kp (x : Pl) | lp (i : Nat) | lt (p : Addr)
def AK.io : AK → Bool
  | .lp _ => true
  | .lt _ => true
  | _ => false
section
variable {G : Gb} {W W0 W1 W2 W' : Wd} {σ : L2.St} {en en' en1 en2 en3 : Stt} {d e r : D} {v u : V}
/-- the argument's state, own: who owns what -/
def AKOk (G : Gb) (W : Wd) (en : Stt) (own : Pl → Addr) : AK → D → V → Prop
  | .sh, d, v => Dat G W.A W.U d v
  | .kp x, d, v => (en.at x).own = true ∧ v = .ref (own x) ∧ W.O (own x) ∧ Cont G W d (own x)
  | .lp i, d, v => (en.at (.loc i)).own = true ∧ v = .ref (own (.loc i)) ∧ W.O (own (.loc i)) ∧ Cont G W d (own (.loc i))
  | .lt p, d, v => v = .ref p ∧ W.O p ∧ Cont G W d p ∧ ∀ x, (en.at x).own = true → own x ≠ p
def AK.addr (own : Pl → Addr) : AK → Option Addr
  | .lp i => some (own (.loc i))
  | .lt p => some p
  | _ => none
/-- the lent addresses; the kept ones -/
def Lent (own : Pl → Addr) (ks : List AK) (p : Addr) : Prop := ∃ k ∈ ks, k.addr own = some p
def Kept (own : Pl → Addr) (ks : List AK) (p : Addr) : Prop := ∃ x, AK.kp x ∈ ks ∧ own x = p
structure Hand (G : Gb) (W : Wd) (σ : L2.St) (en : Stt) (own : Pl → Addr) (ks : List AK) (ds : List D) (vs : List V) : Prop where
  h1 : ∀ x, en.at x = .no ∨ ∃ v, ValAt G W σ x v ∧ SlotOk G W (own x) (en.at x) v
  h2 : ∀ x y, (en.at x).own = true → (en.at y).own = true → own x = own y → x = y
  ld : ks.length = ds.length
  lv : ks.length = vs.length
  args : ∀ (j : Nat) (k : AK), ks[j]? = some k → ∃ (d : D) (v : V), ds[j]? = some d ∧ vs[j]? = some v ∧ AKOk G W en own k d v
  inj : ∀ (i j : Nat) (k k' : AK) (p : Addr), ks[i]? = some k → ks[j]? = some k' → k.addr own = some p → k'.addr own = some p → i = j
open Classical in
/-- the callee's world -/
noncomputable def inner (W : Wd) (en : Stt) (own : Pl → Addr) (ks : List AK) (ob : Bool) : Wd where
  B := W.B
  U := fun p => if Kept own ks p then W.H p else W.U p
  O := fun p => if ob = true then W.O p ∧ ∀ i, (en.at (.loc i)).own = true → own (.loc i) = p → Lent own ks p else Lent own ks p
  A := if ob = true then W.A else []
  H := W.H
theorem Slot.own_ow {s : Slot} (h : s.own = true) : ∃ d, s = .ow d ∨ s = .io d := by
  cases s with
  | no => cases h
  | sh d => cases h
  | ow d => exact ⟨d, .inl rfl⟩
  | io d => exact ⟨d, .inr rfl⟩
variable {own : Pl → Addr} {ks : List AK} {ds : List D} {vs : List V} {ob : Bool}
theorem Hand.ownO (h : Hand G W σ en own ks ds vs) {x : Pl} (hx : (en.at x).own = true) : W.O (own x) := by
  rcases h.h1 x with e | ⟨v, _, e⟩
  · rw [e] at hx; cases hx
  · obtain ⟨d, z | z⟩ := Slot.own_ow hx
    · rw [z] at e; exact e.2.1
    · rw [z] at e; exact e.2.1
theorem Hand.lentO (h : Hand G W σ en own ks ds vs) {p : Addr} (l : Lent own ks p) : W.O p := by
  obtain ⟨k, hk, e⟩ := l
  obtain ⟨j, hj⟩ := List.getElem?_of_mem hk
  obtain ⟨d, v, _, _, a⟩ := h.args j k hj
  cases k with
  | sh => cases e
  | kp x => cases e
  | lp i => cases e; exact a.2.2.1
  | lt p => cases e; exact a.2.1
theorem Hand.keptO (h : Hand G W σ en own ks ds vs) {p : Addr} (l : Kept own ks p) : W.O p := by
  obtain ⟨x, hk, e⟩ := l
  obtain ⟨j, hj⟩ := List.getElem?_of_mem hk
  obtain ⟨d, v, _, _, a⟩ := h.args j _ hj
  subst e
  exact a.2.2.1
/-- what is kept is not lent: the places differ -/
def Apart (own : Pl → Addr) (ks : List AK) : Prop := ∀ p, Kept own ks p → ¬ Lent own ks p
open Classical
theorem inner_O (p : Addr) : (inner W en own ks ob).O p → (h : Hand G W σ en own ks ds vs) → W.O p := fun z h => by
  unfold inner at z
  simp only at z
  split at z
  · exact z.1
  · exact h.lentO z
theorem lent_O (h : Hand G W σ en own ks ds vs) {p : Addr} (l : Lent own ks p) : (inner W en own ks ob).O p := by
  unfold inner
  simp only
  split
  · exact ⟨h.lentO l, fun _ _ _ => l⟩
  · exact l
theorem inner_ok (ok : W.Ok) (h : Hand G W σ en own ks ds vs) (ha : Apart own ks) (hk : ob = true → ∀ x, AK.kp x ∉ ks) : (inner W en own ks ob).Ok where
  sub := fun p o e => by
    have e : (if Kept own ks p then W.H p else W.U p) = some o := e
    by_cases hp : Kept own ks p
    · rw [if_pos hp] at e
      refine ⟨e, fun z => ?_⟩
      unfold inner at z
      simp only at z
      split at z
      · rename_i hob
        obtain ⟨x, hx, _⟩ := hp
        exact hk hob x hx
      · exact ha p hp z
    · rw [if_neg hp] at e
      exact ⟨(ok.sub p o e).1, fun z => (ok.sub p o e).2 (inner_O p z h)⟩
  own := fun p z => ok.own p (inner_O p z h)
  bas := ok.bas
theorem inner_U (ok : W.Ok) (h : Hand G W σ en own ks ds vs) : Sub W.U (inner W en own ks ob).U := fun p o e => by
  show (if Kept own ks p then W.H p else W.U p) = some o
  by_cases hp : Kept own ks p
  · rw [if_pos hp]; exact (ok.sub p o e).1
  · rw [if_neg hp]; exact e
theorem cont_inner (ok : W.Ok) (h : Hand G W σ en own ks ds vs) {p : Addr} (hn : ob = true ∨ noO 40 d = true) (c : Cont G W d p) : Cont G (inner W en own ks ob) d p := by
  have sU := inner_U (ob := ob) ok h
  cases d with
  | lst xs =>
    obtain ⟨vs, c1, c2⟩ := c
    refine ⟨vs, c1, ?_⟩
    rcases hn with hn | hn
    · have eA : (inner W en own ks ob).A = W.A := by unfold inner; simp only; rw [if_pos hn]
      rw [eA]; exact c2.mono sU ⟨[], by simp⟩
    · exact DatL.noA (c2.mono sU ⟨[], (by simp : W.A = W.A ++ [])⟩) 39 hn
  | dic kds =>
    obtain ⟨kvs, ds, c1, c2, c3⟩ := c
    refine ⟨kvs, ds, c1, c2, ?_⟩
    rcases hn with hn | hn
    · have eA : (inner W en own ks ob).A = W.A := by unfold inner; simp only; rw [if_pos hn]
      rw [eA]; exact c3.mono sU ⟨[], by simp⟩
    · subst c2
      have hl := c3.length
      rw [List.length_map] at hl
      exact DatL.noA (c3.mono sU ⟨[], (by simp : W.A = W.A ++ [])⟩) 39 (noO_zip hl hn)
  | _ => exact c.elim
def refOf : V → Addr
  | .ref p => p
  | _ => 0
theorem parS_get : ∀ {io : List Bool} {ds : List D} {j : Nat} {s : Slot}, (parS io ds)[j]? = some s → ∃ b d, io[j]? = some b ∧ ds[j]? = some d ∧ s = if b then .io d else .sh d
  | [], _, _, _, h => by simp [parS] at h
  | _ :: _, [], _, _, h => by simp [parS] at h
  | true :: io, d :: ds, 0, s, h => by simp [parS] at h; exact ⟨true, d, rfl, rfl, h.symm⟩
  | false :: io, d :: ds, 0, s, h => by simp [parS] at h; exact ⟨false, d, rfl, rfl, h.symm⟩
  | true :: io, d :: ds, j + 1, s, h => by simp [parS] at h; simpa using parS_get (io := io) (ds := ds) (j := j) h
  | false :: io, d :: ds, j + 1, s, h => by simp [parS] at h; simpa using parS_get (io := io) (ds := ds) (j := j) h
theorem parS_len : ∀ {io : List Bool} {ds : List D}, io.length = ds.length → (parS io ds).length = io.length
  | [], [], _ => rfl
  | true :: io, d :: ds, h => by simp [parS, parS_len (io := io) (ds := ds) (by simpa using h)]
  | false :: io, d :: ds, h => by simp [parS, parS_len (io := io) (ds := ds) (by simpa using h)]
/-- the callee's state at its entry -/
theorem inner_rep (ok : W.Ok) (rp : Rep G W σ en) (h : Hand G W σ en own ks ds vs) (hn : ob = true ∨ ds.all (noO 40) = true) (hk : ob = true → ∀ x, AK.kp x ∉ ks) :
    Rep G (inner W en own ks ob) (vs.map some) ⟨parS (ks.map AK.io) ds, if ob = true then en.obs else []⟩ where
  len := by
    show (parS (ks.map AK.io) ds).length = _
    rw [parS_len (by rw [List.length_map]; exact h.ld), List.length_map, List.length_map]; exact h.lv
  obs := by
    show (if ob = true then en.obs else []).length = (if ob = true then W.A else []).length
    split
    · exact rp.obs
    · rfl
  nod := by
    show (if ob = true then W.A else []).Nodup
    split
    · exact rp.nod
    · exact List.nodup_nil
  nof := fun n f d z => by
    cases ob with
    | true => exact rp.nof n f d z
    | false => cases z
  ob := fun n o e => by
    cases hob : ob with
    | false => rw [hob] at e; simp at e
    | true =>
      rw [hob] at e
      obtain ⟨a, dx, fs, z1, z2, z3, z4, z5, z6⟩ := (rp.ob n o e).ex
      have key : ∀ q u, W.O q → W.H q = some u → (∀ vs, u ≠ .lst vs) → (∀ k, u ≠ .dK k) → (inner W en own ks true).O q := fun q u hq hu n1 n2 => by
        unfold inner; simp only [if_true]
        refine ⟨hq, fun i hi e => ?_⟩
        exfalso
        rcases h.h1 (.loc i) with y | ⟨v, _, y⟩
        · rw [y] at hi; cases hi
        · have cc : ∃ d, Cont G W d q := by
            obtain ⟨d, z | z⟩ := Slot.own_ow hi
            · rw [z] at y; exact ⟨d, e ▸ y.2.2.2⟩
            · rw [z] at y; exact ⟨d, e ▸ y.2.2⟩
          obtain ⟨d, cc⟩ := cc
          cases d with
          | lst xs => obtain ⟨vs, c1, _⟩ := cc; rw [hu] at c1; cases c1; exact n1 _ rfl
          | dic kds => obtain ⟨kvs, ds, c1, _⟩ := cc; rw [hu] at c1; cases c1; exact n2 _ rfl
          | _ => exact cc
      exact ⟨a, dx, fs, z1, z2, key a _ z3 z2 (by intro _ y; cases y) (by intro _ y; cases y), key dx _ z4 z5 (by intro _ y; cases y) (by intro _ y; cases y), z5, z6⟩
  ex := by
    have loc : ∀ (j : Nat) (s : Slot), (parS (ks.map AK.io) ds)[j]? = some s → ∃ (k : AK) (d : D) (v : V), ks[j]? = some k ∧ ds[j]? = some d ∧ vs[j]? = some v ∧ AKOk G W en own k d v ∧ s = if k.io then .io d else .sh d := fun j s e => by
      obtain ⟨b, d, e1, e2, e3⟩ := parS_get e
      rw [List.getElem?_map] at e1
      cases q : ks[j]? with
      | none => rw [q] at e1; cases e1
      | some k =>
        rw [q] at e1; cases e1
        obtain ⟨d', v, y1, y2, y3⟩ := h.args j k q
        rw [e2] at y1; cases y1
        exact ⟨k, d, v, rfl, e2, y2, y3, e3⟩
    have hno : ∀ (j : Nat) (d : D), ds[j]? = some d → ob = true ∨ noO 40 d = true := fun j d e => hn.imp id fun z => List.all_eq_true.mp z d (List.mem_of_getElem? e)
    have sU := inner_U (ob := ob) ok h
    have eA : ob = true → (inner W en own ks ob).A = W.A := fun hob => by unfold inner; simp only; rw [if_pos hob]
    have toIn : ∀ {j : Nat} {d : D} {v : V}, ds[j]? = some d → Dat G W.A (inner W en own ks ob).U d v → Dat G (inner W en own ks ob).A (inner W en own ks ob).U d v := fun e y => by
      rcases hno _ _ e with hob | z
      · rw [eA hob]; exact y
      · exact Dat.noA y 40 z
    refine ⟨fun x => match x with | .loc j => ((vs[j]?).map refOf).getD 0 | .fld n f => own (.fld n f), fun x => ?_, fun x y hx hy e => ?_⟩
    · cases x with
      | loc j =>
        show (parS (ks.map AK.io) ds).getD j .no = .no ∨ _
        cases q : (parS (ks.map AK.io) ds)[j]? with
        | none => exact .inl (by rw [List.getD, q]; rfl)
        | some s =>
          obtain ⟨k, d, v, e1, e2, e3, e4, e5⟩ := loc j s q
          refine .inr ⟨v, ?_, ?_⟩
          · show (vs.map some)[j]? = some (some v)
            rw [List.getElem?_map, e3]; rfl
          · have eat : Stt.at ⟨parS (ks.map AK.io) ds, if ob = true then en.obs else []⟩ (.loc j) = s := getD_of q
            rw [eat, e5]
            show SlotOk G (inner W en own ks ob) (((vs[j]?).map refOf).getD 0) _ v
            rw [e3]
            cases k with
            | sh => exact toIn e2 (e4.mono sU ⟨[], by simp⟩)
            | kp x =>
              obtain ⟨a1, a2, a3, a4⟩ := e4
              obtain ⟨o, c1, c2⟩ := a4.dat
              subst a2
              refine toIn e2 (c2 _ _ sU ⟨[], by simp⟩ ?_)
              show (if Kept own ks (own x) then W.H (own x) else W.U (own x)) = some o
              rw [if_pos ⟨x, List.mem_of_getElem? e1, rfl⟩]; exact c1
            | lp i =>
              obtain ⟨a1, a2, a3, a4⟩ := e4
              subst a2
              exact ⟨rfl, lent_O h ⟨_, List.mem_of_getElem? e1, rfl⟩, cont_inner ok h (hno j d e2) a4⟩
            | lt p =>
              obtain ⟨a2, a3, a4, _⟩ := e4
              subst a2
              exact ⟨rfl, lent_O h ⟨_, List.mem_of_getElem? e1, rfl⟩, cont_inner ok h (hno j d e2) a4⟩
      | fld n f =>
        cases hob : ob with
        | false => exact .inl rfl
        | true =>
          rcases h.h1 (.fld n f) with z | ⟨v, z1, z2⟩
          · exact .inl z
          · refine .inr ⟨v, z1, ?_⟩
            show SlotOk G (inner W en own ks true) (own (.fld n f)) (en.at (.fld n f)) v
            have eA' := eA hob
            rw [hob] at sU eA'
            have hf : ∀ d, en.at (.fld n f) ≠ .ow d := fun d => rp.nof n f d
            generalize hs : en.at (.fld n f) = s at z2 hf
            cases s with
            | no => trivial
            | sh d => show Dat G _ _ d v; rw [eA']; exact Dat.mono sU ⟨[], by simp⟩ z2
            | ow d => exact absurd rfl (hf d)
            | io d =>
              obtain ⟨a1, a2, a3⟩ := z2
              refine ⟨a1, ?_, cont_inner ok h (.inl rfl) a3⟩
              unfold inner; simp only [if_true]
              exact ⟨a2, fun i hi e => absurd (h.h2 (.loc i) (.fld n f) hi (by rw [hs]; rfl) e) (fun z => nomatch z)⟩
    · cases x with
      | loc j =>
        have hx : ((parS (ks.map AK.io) ds).getD j .no).own = true := hx
        cases q : (parS (ks.map AK.io) ds)[j]? with
        | none => rw [List.getD, q] at hx; cases hx
        | some s =>
          rw [getD_of q] at hx
          obtain ⟨k, d, v, e1, e2, e3, e4, e5⟩ := loc j s q
          have hkio : k.io = true := by
            cases z : k.io with
            | true => rfl
            | false => rw [z] at e5; subst e5; cases hx
          have hadr : k.addr own = some (refOf v) := by
            cases k with
            | sh => cases hkio
            | kp x => cases hkio
            | lp i => obtain ⟨_, a2, _⟩ := e4; subst a2; rfl
            | lt p => obtain ⟨a2, _⟩ := e4; subst a2; rfl
          cases y with
          | loc j' =>
            have hy : ((parS (ks.map AK.io) ds).getD j' .no).own = true := hy
            cases q' : (parS (ks.map AK.io) ds)[j']? with
            | none => rw [List.getD, q'] at hy; cases hy
            | some s' =>
              rw [getD_of q'] at hy
              obtain ⟨k', d', v', y1, y2, y3, y4, y5⟩ := loc j' s' q'
              have hkio' : k'.io = true := by
                cases z : k'.io with
                | true => rfl
                | false => rw [z] at y5; subst y5; cases hy
              have hadr' : k'.addr own = some (refOf v') := by
                cases k' with
                | sh => cases hkio'
                | kp x => cases hkio'
                | lp i => obtain ⟨_, a2, _⟩ := y4; subst a2; rfl
                | lt p => obtain ⟨a2, _⟩ := y4; subst a2; rfl
              have e : ((vs[j]?).map refOf).getD 0 = ((vs[j']?).map refOf).getD 0 := e
              rw [e3, y3] at e
              have e : refOf v = refOf v' := e
              rw [← e] at hadr'
              rw [h.inj j j' k k' _ e1 y1 hadr hadr']
          | fld n f =>
            exfalso
            have e : ((vs[j]?).map refOf).getD 0 = own (.fld n f) := e
            rw [e3] at e
            have e : refOf v = own (.fld n f) := e
            have hy' : (en.at (.fld n f)).own = true := by
              cases hob : ob with
              | false => rw [hob] at hy; cases hy
              | true => rw [hob] at hy; exact hy
            cases k with
            | sh => cases hkio
            | kp x => cases hkio
            | lp i =>
              obtain ⟨a1, a2, _⟩ := e4; subst a2
              exact absurd (h.h2 _ _ a1 hy' e) fun z => nomatch z
            | lt p =>
              obtain ⟨a2, _, _, a4⟩ := e4; subst a2
              exact a4 _ hy' e.symm
      | fld n f =>
        have hx' : (en.at (.fld n f)).own = true := by
          cases hob : ob with
          | false => rw [hob] at hx; cases hx
          | true => rw [hob] at hx; exact hx
        cases y with
        | fld m g =>
          have hy' : (en.at (.fld m g)).own = true := by
            cases hob : ob with
            | false => rw [hob] at hy; cases hy
            | true => rw [hob] at hy; exact hy
          exact h.h2 _ _ hx' hy' e
        | loc j =>
          exfalso
          have hy : ((parS (ks.map AK.io) ds).getD j .no).own = true := hy
          cases q : (parS (ks.map AK.io) ds)[j]? with
          | none => rw [List.getD, q] at hy; cases hy
          | some s =>
            rw [getD_of q] at hy
            obtain ⟨k, d, v, e1, e2, e3, e4, e5⟩ := loc j s q
            have hkio : k.io = true := by
              cases z : k.io with
              | true => rfl
              | false => rw [z] at e5; subst e5; cases hy
            have e : own (.fld n f) = ((vs[j]?).map refOf).getD 0 := e
            rw [e3] at e
            have e : own (.fld n f) = refOf v := e
            cases k with
            | sh => cases hkio
            | kp x => cases hkio
            | lp i =>
              obtain ⟨a1, a2, _⟩ := e4; subst a2
              exact absurd (h.h2 _ _ hx' a1 e) fun z => nomatch z
            | lt p =>
              obtain ⟨a2, _, _, a4⟩ := e4; subst a2
              exact a4 _ hx' e
end
end Py
/-! Behind a call. -/
namespace Py
open PySem PySem.Spec PyProof.Rows L2
open Classical
section
variable {G : Gb} {W Wc W0 W1 W2 W' : Wd} {σ : L2.St} {en en' en1 en2 en3 : Stt} {d e r : D} {v u : V} {own : Pl → Addr} {ks : List AK} {ds : List D} {vs : List V} {ob : Bool}
noncomputable def outer (W Wc : Wd) (en : Stt) (own : Pl → Addr) (ks : List AK) (ob : Bool) : Wd where
  B := W.B
  U := fun p => if Kept own ks p then none else Wc.U p
  O := fun p => Wc.O p ∨ (W.O p ∧ ¬ (inner W en own ks ob).O p)
  A := if ob = true then Wc.A else W.A
  H := Wc.H
theorem Hand.keptC (h : Hand G W σ en own ks ds vs) {p : Addr} (l : Kept own ks p) : ∃ d, Cont G W d p := by
  obtain ⟨x, hk, e⟩ := l
  obtain ⟨j, hj⟩ := List.getElem?_of_mem hk
  obtain ⟨d, v, _, _, a⟩ := h.args j _ hj
  subst e
  exact ⟨d, a.2.2.2⟩
theorem outer_U (ok : W.Ok) (h : Hand G W σ en own ks ds vs) (st : Step (inner W en own ks ob) Wc) : Sub W.U (outer W Wc en own ks ob).U := fun p o e => by
  show (if Kept own ks p then none else Wc.U p) = some o
  by_cases hp : Kept own ks p
  · exact absurd (h.keptO hp) (ok.sub p o e).2
  · rw [if_neg hp]; exact st.U p o (inner_U ok h p o e)
theorem outer_new (ok : W.Ok) (h : Hand G W σ en own ks ds vs) (st : Step (inner W en own ks ob) Wc) {p : Addr} (hO : W.O p) (hc : ¬ (inner W en own ks ob).O p) (hp : ¬ Kept own ks p) : Wc.U p = none ∧ ¬ Wc.O p := by
  have hU : (inner W en own ks ob).U p = none := by
    show (if Kept own ks p then W.H p else W.U p) = none
    rw [if_neg hp]
    cases e : W.U p with
    | none => rfl
    | some o => exact absurd hO (ok.sub p o e).2
  exact st.loose hU hc (ok.own p hO)
theorem outer_ok (ok : W.Ok) (okc : Wc.Ok) (h : Hand G W σ en own ks ds vs) (st : Step (inner W en own ks ob) Wc) : (outer W Wc en own ks ob).Ok where
  sub := fun p o e => by
    have e : (if Kept own ks p then none else Wc.U p) = some o := e
    by_cases hp : Kept own ks p
    · rw [if_pos hp] at e; cases e
    · rw [if_neg hp] at e
      refine ⟨(okc.sub p o e).1, fun z => ?_⟩
      rcases z with z | ⟨z1, z2⟩
      · exact (okc.sub p o e).2 z
      · have := (outer_new ok h st z1 z2 hp).1
        rw [e] at this; cases this
  own := fun p z => by
    rcases z with z | ⟨z, _⟩
    · exact okc.own p z
    · obtain ⟨o, e⟩ := ok.own p z
      exact st.K p o e
  bas := fun p z => by
    obtain ⟨o, e⟩ := ok.bas p z
    exact st.K p o e
theorem outer_step (ok : W.Ok) (h : Hand G W σ en own ks ds vs) (st : Step (inner W en own ks ob) Wc) : Step W (outer W Wc en own ks ob) where
  B := rfl
  U := outer_U ok h st
  H := fun p o e z => st.H p o e fun y => z (inner_O p y h)
  K := st.K
  N := fun p z => by
    have key : ((∃ o, Wc.U p = some o) ∨ Wc.O p) → ¬ Kept own ks p → (∃ o, W.U p = some o) ∨ W.O p ∨ W.H p = none := fun z hp => by
      rcases st.N p z with ⟨o, y⟩ | y | y
      · have y : (if Kept own ks p then W.H p else W.U p) = some o := y
        rw [if_neg hp] at y; exact .inl ⟨o, y⟩
      · exact .inr (.inl (inner_O p y h))
      · exact .inr (.inr y)
    by_cases hp : Kept own ks p
    · exact .inr (.inl (h.keptO hp))
    · rcases z with ⟨o, z⟩ | z | ⟨z, _⟩
      · have z : (if Kept own ks p then none else Wc.U p) = some o := z
        rw [if_neg hp] at z
        exact key (.inl ⟨o, z⟩) hp
      · exact key (.inr z) hp
      · exact .inr (.inl z)
  A := by
    obtain ⟨r, e⟩ := st.A
    cases ob with
    | true => exact ⟨r, e⟩
    | false => exact ⟨[], by simp [outer]⟩
/-- what may come out of the callee's world -/
def OutOk (ob : Bool) (own : Pl → Addr) (ks : List AK) (d : D) : Prop := ob = true ∧ (∀ x, AK.kp x ∉ ks) ∨ noO 40 d = true ∧ (imm 40 d = true ∨ ∀ x, AK.kp x ∉ ks)
theorem kept_none (hk : ∀ x, AK.kp x ∉ ks) (p : Addr) : ¬ Kept own ks p := fun ⟨x, hx, _⟩ => hk x hx
theorem outer_imm (ok : W.Ok) (h : Hand G W σ en own ks ds vs) (st : Step (inner W en own ks ob) Wc) : ImmSub Wc.U (outer W Wc en own ks ob).U := fun p o e n1 n2 => by
  show (if Kept own ks p then none else Wc.U p) = some o
  by_cases hp : Kept own ks p
  · exfalso
    obtain ⟨d, c⟩ := h.keptC hp
    obtain ⟨o', c1⟩ := c.there
    have : Wc.U p = some o' := st.U p o' (by show (if Kept own ks p then W.H p else W.U p) = some o'; rw [if_pos hp]; exact c1)
    rw [e] at this; cases this
    cases d with
    | lst xs => obtain ⟨vs, z, _⟩ := c; rw [c1] at z; cases z; exact n1 _ rfl
    | dic kds => obtain ⟨kvs, ds, z, _⟩ := c; rw [c1] at z; cases z; exact n2 _ rfl
    | _ => exact c
  · rw [if_neg hp]; exact e
theorem outer_same (hk : ∀ x, AK.kp x ∉ ks) : (outer W Wc en own ks ob).U = Wc.U := by
  funext p
  show (if Kept own ks p then none else Wc.U p) = _
  rw [if_neg (kept_none hk p)]
theorem Dat.outer (ok : W.Ok) (h : Hand G W σ en own ks ds vs) (st : Step (inner W en own ks ob) Wc) (ho : OutOk ob own ks d) (x : Dat G Wc.A Wc.U d v) : Dat G (outer W Wc en own ks ob).A (outer W Wc en own ks ob).U d v := by
  rcases ho with ⟨rfl, hk⟩ | ⟨hn, hi | hk⟩
  · rw [outer_same hk]; exact x
  · exact Dat.noA (Dat.imm (outer_imm ok h st) 40 hi x) 40 hn
  · rw [outer_same hk]; exact Dat.noA x 40 hn
def OutOkP (ob : Bool) (own : Pl → Addr) (ks : List AK) (d : D) : Prop := ob = true ∧ (∀ x, AK.kp x ∉ ks) ∨ noO 40 d = true ∧ (immP d = true ∨ ∀ x, AK.kp x ∉ ks)
theorem Cont.outer {p : Addr} (ok : W.Ok) (h : Hand G W σ en own ks ds vs) (st : Step (inner W en own ks ob) Wc) (ho : OutOkP ob own ks d) (x : Cont G Wc d p) : Cont G (outer W Wc en own ks ob) d p := by
  cases d with
  | lst xs =>
    obtain ⟨vs, x1, x2⟩ := x
    refine ⟨vs, x1, ?_⟩
    rcases ho with ⟨rfl, hk⟩ | ⟨hn, hi | hk⟩
    · rw [outer_same hk]; exact x2
    · exact DatL.noA (DatL.imm (outer_imm ok h st) 40 hi x2) 39 hn
    · rw [outer_same hk]; exact DatL.noA x2 39 hn
  | dic kds =>
    obtain ⟨kvs, ds, x1, x2, x3⟩ := x
    refine ⟨kvs, ds, x1, x2, ?_⟩
    subst x2
    have hl : ds.length = kvs.length := by rw [x3.length, List.length_map]
    rcases ho with ⟨rfl, hk⟩ | ⟨hn, hi | hk⟩
    · rw [outer_same hk]; exact x3
    · have hp : ((kvs.map fun q => kD q.1).zip ds).map (·.2) = ds := by rw [List.map_snd_zip]; rw [List.length_map]; omega
      have hi : ((((kvs.map fun q => kD q.1).zip ds).map (·.2)).all (Py.imm 40)) = true := hi
      rw [hp] at hi
      exact DatL.noA (DatL.imm (outer_imm ok h st) 40 hi x3) 39 (noO_zip hl hn)
    · rw [outer_same hk]; exact DatL.noA x3 39 (noO_zip hl hn)
  | _ => exact x.elim
/-- the caller's names behind the call -/
structure Back (en en' : Stt) (ks : List AK) (ds outs : List D) (ob : Bool) (obs : List Ob) : Prop where
  b1 : ∀ i, (∀ j : Nat, ks[j]? ≠ some (.lp i)) → en'.at (.loc i) = en.at (.loc i)
  b2 : ∀ (j i : Nat), ks[j]? = some (.lp i) → ∃ o, (outS (ks.map AK.io) ds outs)[j]? = some (.io o) ∧ en'.at (.loc i) = (en.at (.loc i)).upd o
  b3 : en'.obs = if ob = true then obs else en.obs
  b4 : en'.loc.length = en.loc.length
theorem outS_mem : ∀ {io : List Bool} {ds outs : List D} {j : Nat} {o : D}, (outS io ds outs)[j]? = some (.io o) → o ∈ outs
  | [], _, _, _, _, h => by simp [outS] at h
  | true :: io, [], _, _, _, h => by simp [outS] at h
  | false :: io, [], _, _, _, h => by simp [outS] at h
  | true :: io, d :: ds, [], _, _, h => by simp [outS] at h
  | true :: io, d :: ds, o' :: outs, 0, o, h => by simp [outS] at h; subst h; exact List.mem_cons_self
  | true :: io, d :: ds, o' :: outs, j + 1, o, h => by simp [outS] at h; exact List.mem_cons_of_mem _ (outS_mem h)
  | false :: io, d :: ds, outs, 0, o, h => by simp [outS] at h
  | false :: io, d :: ds, outs, j + 1, o, h => by simp [outS] at h; exact outS_mem h
theorem upd_own {s : Slot} {o : D} : (s.upd o).own = s.own := by cases s <;> rfl
theorem outer_rep (ok : W.Ok) (okc : Wc.Ok) (rp : Rep G W σ en) (h : Hand G W σ en own ks ds vs) (st : Step (inner W en own ks ob) Wc) {outs : List D} {obs : List Ob}
    (rc : Rep G Wc (vs.map some) ⟨outS (ks.map AK.io) ds outs, obs⟩) (bk : Back en en' ks ds outs ob obs) (ho : ∀ o ∈ outs, OutOkP ob own ks o) (hk : ob = true → ∀ x, AK.kp x ∉ ks) : Rep G (outer W Wc en own ks ob) σ en' := by
  obtain ⟨ownc, c1, c2⟩ := rc.ex
  -- a lent name's address is the same
  have lent : ∀ (j i : Nat), ks[j]? = some (.lp i) → ∃ o, en'.at (.loc i) = (en.at (.loc i)).upd o ∧ o ∈ outs ∧ (Stt.at ⟨outS (ks.map AK.io) ds outs, obs⟩ (.loc j)) = .io o ∧ ownc (.loc j) = own (.loc i) ∧ Wc.O (own (.loc i)) ∧ Cont G Wc o (own (.loc i)) ∧
      (en.at (.loc i)).own = true ∧ vs[j]? = some (.ref (own (.loc i))) := fun j i e => by
    obtain ⟨o, z1, z2⟩ := bk.b2 j i e
    obtain ⟨d, v, y1, y2, y3⟩ := h.args j _ e
    obtain ⟨a1, a2, a3, a4⟩ := y3
    have eat : Stt.at ⟨outS (ks.map AK.io) ds outs, obs⟩ (.loc j) = .io o := getD_of z1
    rcases c1 (.loc j) with y | ⟨u, y5, y6⟩
    · rw [eat] at y; cases y
    · rw [eat] at y6
      obtain ⟨b1, b2, b3⟩ := y6
      have y5 : (vs.map some)[j]? = some (some u) := y5
      rw [List.getElem?_map, y2] at y5
      cases y5
      rw [a2] at b1
      have e2 : own (.loc i) = ownc (.loc j) := V.ref.inj b1
      refine ⟨o, z2, outS_mem z1, eat, e2.symm, e2 ▸ b2, e2 ▸ b3, a1, by rw [y2, a2]⟩
  have eatF : ∀ n f, en'.at (.fld n f) = if ob = true then Stt.at ⟨outS (ks.map AK.io) ds outs, obs⟩ (.fld n f) else en.at (.fld n f) := fun n f => by
    have e3 := bk.b3
    show en'.fldAt n f = _
    unfold Stt.fldAt
    rw [e3]
    cases hob : ob with
    | true => rw [if_pos rfl, if_pos rfl]; rfl
    | false => rw [if_neg Bool.false_ne_true, if_neg Bool.false_ne_true]; rfl
  have isLent : ∀ i, (∃ j : Nat, ks[j]? = some (.lp i)) ∨ ∀ j : Nat, ks[j]? ≠ some (.lp i) := fun i => by
    by_cases z : ∃ j : Nat, ks[j]? = some (.lp i)
    · exact .inl z
    · exact .inr fun j e => z ⟨j, e⟩
  -- an owner that lends nothing keeps what it owns
  have notIn : ∀ x, (en.at x).own = true → (∀ i, x = .loc i → ∀ j : Nat, ks[j]? ≠ some (.lp i)) → (ob = true → ∃ i, x = .loc i) → ¬ (inner W en own ks ob).O (own x) := fun x hx hl hf z => by
    have nl : ¬ Lent own ks (own x) := fun ⟨k, hk', e⟩ => by
      obtain ⟨j, hj⟩ := List.getElem?_of_mem hk'
      obtain ⟨d, v, _, _, a⟩ := h.args j k hj
      cases k with
      | sh => cases e
      | kp y => cases e
      | lp i =>
        have e : own (.loc i) = own x := Option.some.inj e
        have := h.h2 _ _ a.1 hx e
        exact hl i this.symm j hj
      | lt p => cases e; exact a.2.2.2 x hx rfl
    unfold inner at z
    simp only at z
    split at z
    · rename_i hob
      obtain ⟨i, rfl⟩ := hf hob
      exact nl (z.2 i hx rfl)
    · exact nl z
  have keepC : ∀ x d, (en.at x).own = true → (∀ i, x = .loc i → ∀ j : Nat, ks[j]? ≠ some (.lp i)) → (ob = true → ∃ i, x = .loc i) → Cont G W d (own x) → (outer W Wc en own ks ob).O (own x) ∧ Cont G (outer W Wc en own ks ob) d (own x) := fun x d hx hl hf c => by
    have nO := notIn x hx hl hf
    refine ⟨.inr ⟨h.ownO hx, nO⟩, ?_⟩
    have sU := outer_U ok h st
    have sA : ∃ r, (outer W Wc en own ks ob).A = W.A ++ r := (outer_step ok h st).A
    cases d with
    | lst xs => obtain ⟨vs, z1, z2⟩ := c; exact ⟨vs, st.H _ _ z1 nO, z2.mono sU sA⟩
    | dic kds => obtain ⟨kvs, ds, z1, z2, z3⟩ := c; exact ⟨kvs, ds, st.H _ _ z1 nO, z2, z3.mono sU sA⟩
    | _ => exact c.elim
  refine ⟨by rw [bk.b4]; exact rp.len, ?_, ?_, fun n o e => ?_, fun n f d z => ?_, fun x => match x with | .loc i => own (.loc i) | .fld n f => if ob = true then ownc (.fld n f) else own (.fld n f), fun x => ?_, fun x y hx hy e => ?_⟩
  · rw [bk.b3]
    show (if ob = true then obs else en.obs).length = (if ob = true then Wc.A else W.A).length
    split
    · exact rc.obs
    · exact rp.obs
  · show (if ob = true then Wc.A else W.A).Nodup
    split
    · exact rc.nod
    · exact rp.nod
  · rw [bk.b3] at e
    cases hob : ob with
    | true =>
      rw [hob] at e
      obtain ⟨a, dx, fs, z1, z2, z3, z4, z5, z6⟩ := (rc.ob n o e).ex
      exact ⟨a, dx, fs, z1, z2, .inl z3, .inl z4, z5, z6⟩
    | false =>
      rw [hob] at e
      obtain ⟨a, dx, fs, z1, z2, z3, z4, z5, z6⟩ := (rp.ob n o e).ex
      have key : ∀ q u, W.O q → W.H q = some u → (∀ vs, u ≠ .lst vs) → (∀ k, u ≠ .dK k) → ¬ (inner W en own ks false).O q := fun q u hq hu n1 n2 z => by
        have l : Lent own ks q := by
          unfold inner at z; simp only [Bool.false_eq_true, if_false] at z; exact z
        obtain ⟨k, hk', ek⟩ := l
        obtain ⟨j, hj⟩ := List.getElem?_of_mem hk'
        obtain ⟨d, v, _, _, a⟩ := h.args j k hj
        have cc : ∃ d, Cont G W d q := by
          cases k with
          | sh => cases ek
          | kp y => cases ek
          | lp i => cases ek; exact ⟨_, a.2.2.2⟩
          | lt p => cases ek; exact ⟨_, a.2.2.1⟩
        obtain ⟨d, cc⟩ := cc
        cases d with
        | lst xs => obtain ⟨vs, c1, _⟩ := cc; rw [hu] at c1; cases c1; exact n1 _ rfl
        | dic kds => obtain ⟨kvs, ds, c1, _⟩ := cc; rw [hu] at c1; cases c1; exact n2 _ rfl
        | _ => exact cc
      subst hob
      have k1 := key a _ z3 z2 (by intro _ y; cases y) (by intro _ y; cases y)
      have k2 := key dx _ z4 z5 (by intro _ y; cases y) (by intro _ y; cases y)
      exact ⟨a, dx, fs, z1, st.H _ _ z2 k1, .inr ⟨z3, k1⟩, .inr ⟨z4, k2⟩, st.H _ _ z5 k2, z6⟩
  · have z : en'.fldAt n f = .ow d := z
    unfold Stt.fldAt at z
    rw [bk.b3] at z
    cases hob : ob with
    | true => rw [hob] at z; exact rc.nof n f d z
    | false => rw [hob] at z; exact rp.nof n f d z
  · cases x with
    | loc i =>
      rcases isLent i with ⟨j, hj⟩ | hl
      · obtain ⟨o, z1, z2, z3, z4, z5, z6, z7, z8⟩ := lent j i hj
        have old := h.h1 (.loc i)
        rw [z1]
        rcases old with y | ⟨v, y1, y2⟩
        · rw [y] at z7; cases z7
        · refine .inr ⟨v, y1, ?_⟩
          have cc := z6.outer ok h st (ho o z2)
          generalize hs : en.at (.loc i) = s at y2 z7
          cases s with
          | no => cases z7
          | sh d => cases z7
          | ow d => exact ⟨y2.1, .inl z5, y2.2.2.1, cc⟩
          | io d => exact ⟨y2.1, .inl z5, cc⟩
      · rw [bk.b1 i hl]
        rcases h.h1 (.loc i) with y | ⟨v, y1, y2⟩
        · exact .inl y
        · refine .inr ⟨v, y1, ?_⟩
          have kc := fun d hx => keepC (.loc i) d hx (fun i' e => by cases e; exact hl) (fun _ => ⟨i, rfl⟩)
          generalize hs : en.at (.loc i) = s at y2 kc
          cases s with
          | no => trivial
          | sh d => exact Dat.mono (outer_U ok h st) (outer_step ok h st).A y2
          | ow d => obtain ⟨q1, q2⟩ := kc d rfl y2.2.2.2; exact ⟨y2.1, q1, y2.2.2.1, q2⟩
          | io d => obtain ⟨q1, q2⟩ := kc d rfl y2.2.2; exact ⟨y2.1, q1, q2⟩
    | fld n f =>
      have eat : en'.at (.fld n f) = if ob = true then Stt.at ⟨outS (ks.map AK.io) ds outs, obs⟩ (.fld n f) else en.at (.fld n f) := by
        exact eatF n f
      cases hob : ob with
      | true =>
        rw [eat, if_pos hob]
        have hkp := hk hob
        rcases c1 (.fld n f) with y | ⟨v, y1, y2⟩
        · exact .inl y
        · refine .inr ⟨v, ?_, ?_⟩
          · obtain ⟨a, C, dx, fs, x, w1, w2, w3, w4⟩ := y1
            exact ⟨a, C, dx, fs, x, w1, w2, w3, w4⟩
          · show SlotOk G (outer W Wc en own ks true) (if true = true then ownc (.fld n f) else own (.fld n f)) _ v
            rw [if_pos rfl]
            have hnof : ∀ d, Stt.at ⟨outS (ks.map AK.io) ds outs, obs⟩ (.fld n f) ≠ .ow d := fun d => rc.nof n f d
            generalize Stt.at ⟨outS (ks.map AK.io) ds outs, obs⟩ (.fld n f) = s at y2 hnof
            have eU : (outer W Wc en own ks true).U = Wc.U := outer_same hkp
            have cc : ∀ d p, Cont G Wc d p → Cont G (outer W Wc en own ks true) d p := fun d p c => by
              cases d with
              | lst xs => obtain ⟨vs, z1, z2⟩ := c; exact ⟨vs, z1, by rw [eU]; exact z2⟩
              | dic kds => obtain ⟨kvs, ds, z1, z2, z3⟩ := c; exact ⟨kvs, ds, z1, z2, by rw [eU]; exact z3⟩
              | _ => exact c.elim
            cases s with
            | no => trivial
            | sh d => show Dat G _ _ d v; rw [eU]; exact y2
            | ow d => exact absurd rfl (hnof d)
            | io d => exact ⟨y2.1, .inl y2.2.1, cc _ _ y2.2.2⟩
      | false =>
        rw [eat, hob, if_neg Bool.false_ne_true]
        rcases h.h1 (.fld n f) with y | ⟨v, y1, y2⟩
        · exact .inl y
        · refine .inr ⟨v, ?_, ?_⟩
          · obtain ⟨a, C, dx, fs, x, w1, w2, w3, w4⟩ := y1
            have : ∃ ob1, en.obs[n]? = some ob1 := by
              have hlt : n < W.A.length := lt_of_get w1
              rw [← rp.obs] at hlt
              exact ⟨_, List.getElem?_eq_getElem hlt⟩
            obtain ⟨ob1, ho1⟩ := this
            obtain ⟨a', dx', fs', z1, z2, z3, z4, z5, z6⟩ := (rp.ob n ob1 ho1).ex
            rw [w1] at z1; cases z1
            rw [w2] at z2; cases z2
            refine ⟨a, _, dx, fs, x, w1, st.H _ _ w2 fun z => ?_, w3, w4⟩
            have l : Lent own ks a := by
              subst hob
              unfold inner at z; simp only [Bool.false_eq_true, if_false] at z; exact z
            obtain ⟨k, hk', ek⟩ := l
            obtain ⟨j, hj⟩ := List.getElem?_of_mem hk'
            obtain ⟨d, v, _, _, b⟩ := h.args j k hj
            have cc : ∃ d, Cont G W d a := by
              cases k with
              | sh => cases ek
              | kp y => cases ek
              | lp i => cases ek; exact ⟨_, b.2.2.2⟩
              | lt p => cases ek; exact ⟨_, b.2.2.1⟩
            obtain ⟨d, cc⟩ := cc
            cases d with
            | lst xs => obtain ⟨vs, c1, _⟩ := cc; rw [w2] at c1; cases c1
            | dic kds => obtain ⟨kvs, ds, c1, _⟩ := cc; rw [w2] at c1; cases c1
            | _ => exact cc
          · show SlotOk G (outer W Wc en own ks false) (if false = true then ownc (.fld n f) else own (.fld n f)) _ v
            rw [if_neg Bool.false_ne_true]
            have kc := fun d hx => keepC (.fld n f) d hx (fun i' e => nomatch e) (fun z => by rw [hob] at z; cases z)
            subst hob
            generalize hs : en.at (.fld n f) = s at y2 kc
            cases s with
            | no => trivial
            | sh d => exact Dat.mono (outer_U ok h st) (outer_step ok h st).A y2
            | ow d => obtain ⟨q1, q2⟩ := kc d rfl y2.2.2.2; exact ⟨y2.1, q1, y2.2.2.1, q2⟩
            | io d => obtain ⟨q1, q2⟩ := kc d rfl y2.2.2; exact ⟨y2.1, q1, q2⟩
  · -- apart
    have oldOwn : ∀ i, (en'.at (.loc i)).own = true → (en.at (.loc i)).own = true := fun i z => by
      rcases isLent i with ⟨j, hj⟩ | hl
      · obtain ⟨o, z1, _⟩ := lent j i hj; rw [z1, upd_own] at z; exact z
      · rw [bk.b1 i hl] at z; exact z
    have eat : ∀ n f, en'.at (.fld n f) = if ob = true then Stt.at ⟨outS (ks.map AK.io) ds outs, obs⟩ (.fld n f) else en.at (.fld n f) := fun n f => by
      exact eatF n f
    have mix : ∀ i n f, (en'.at (.loc i)).own = true → (en'.at (.fld n f)).own = true → own (.loc i) = (if ob = true then ownc (.fld n f) else own (.fld n f)) → False := fun i n f hi hf e => by
      have hi' := oldOwn i hi
      rw [eat] at hf
      cases hob : ob with
      | false => rw [hob] at e hf; simp only [Bool.false_eq_true, if_false] at e hf; exact absurd (h.h2 _ _ hi' hf e) fun z => nomatch z
      | true =>
        rw [hob] at e hf
        simp only [if_true] at e hf
        rcases isLent i with ⟨j, hj⟩ | hl
        · obtain ⟨o, z1, z2, z3, z4, z5, z6, z7, z8⟩ := lent j i hj
          rw [← z4] at e
          exact absurd (c2 _ _ (by rw [z3]; rfl) hf e) fun z => nomatch z
        · have hOc : Wc.O (own (.loc i)) := by
            rcases c1 (.fld n f) with y | ⟨v, y1, y2⟩
            · rw [y] at hf; cases hf
            · obtain ⟨d, z | z⟩ := Slot.own_ow hf
              · rw [z] at y2; exact e ▸ y2.2.1
              · rw [z] at y2; exact e ▸ y2.2.1
          have := notIn (.loc i) hi' (fun i' e' => by cases e'; exact hl) fun _ => ⟨i, rfl⟩
          exact (outer_new ok h st (h.ownO hi') this (kept_none (hk hob) _)).2 hOc
    cases x with
    | loc i =>
      cases y with
      | loc i' => exact h.h2 _ _ (oldOwn i hx) (oldOwn i' hy) e
      | fld n f => exact (mix i n f hx hy e).elim
    | fld n f =>
      cases y with
      | loc i' => exact (mix i' n f hy hx e.symm).elim
      | fld m g =>
        rw [eat] at hx hy
        have e : (if ob = true then ownc (.fld n f) else own (.fld n f)) = (if ob = true then ownc (.fld m g) else own (.fld m g)) := e
        cases hob : ob with
        | true => rw [hob] at hx hy e; simp only [if_true] at hx hy e; exact c2 _ _ hx hy e
        | false => rw [hob] at hx hy e; simp only [Bool.false_eq_true, if_false] at hx hy e; exact h.h2 _ _ hx hy e
end
end Py
/-! A call of a def. -/
namespace Py
open PySem PySem.Spec PyProof.Rows L2
open Classical
def okM (kp : Bool) : Bool → AV → Bool
  | false, .val _ false => true
  | true, .val _ true => true
  | true, .pl _ => true
  | false, .pl _ => kp
  | _, _ => false
def avOk (kp : Bool) : List Bool → List AV → Bool
  | [], [] => true
  | b :: io, a :: avs => okM kp b a && avOk kp io avs
  | _, _ => false
def mk1 : Bool → AV → V → AK
  | _, .val _ false, _ => .sh
  | _, .val _ true, v => .lt (refOf v)
  | true, .pl (.loc i), _ => .lp i
  | _, .pl x, _ => .kp x
def mkK : List Bool → List AV → List V → List AK
  | b :: io, a :: avs, v :: vs => mk1 b a v :: mkK io avs vs
  | _, _, _ => []
theorem mkK_get : ∀ {io : List Bool} {avs : List AV} {vs : List V} {j : Nat} {k : AK}, (mkK io avs vs)[j]? = some k → ∃ b a v, io[j]? = some b ∧ avs[j]? = some a ∧ vs[j]? = some v ∧ k = mk1 b a v
  | [], _, _, _, _, h => by simp [mkK] at h
  | _ :: _, [], _, _, _, h => by simp [mkK] at h
  | _ :: _, _ :: _, [], _, _, h => by simp [mkK] at h
  | b :: io, a :: avs, v :: vs, 0, k, h => by simp [mkK] at h; exact ⟨b, a, v, rfl, rfl, rfl, h.symm⟩
  | b :: io, a :: avs, v :: vs, j + 1, k, h => by simp [mkK] at h; simpa using mkK_get h
theorem mkK_mk : ∀ {io : List Bool} {avs : List AV} {vs : List V} {j : Nat} {b : Bool} {a : AV} {v : V}, io[j]? = some b → avs[j]? = some a → vs[j]? = some v → (mkK io avs vs)[j]? = some (mk1 b a v)
  | b :: io, a :: avs, v :: vs, 0, _, _, _, h1, h2, h3 => by simp at h1 h2 h3; subst h1 h2 h3; rfl
  | b :: io, a :: avs, v :: vs, j + 1, _, _, _, h1, h2, h3 => by simp at h1 h2 h3; simpa [mkK] using mkK_mk h1 h2 h3
  | [], _, _, _, _, _, _, h1, _, _ => by simp at h1
  | _ :: _, [], _, _, _, _, _, _, h2, _ => by simp at h2
  | _ :: _, _ :: _, [], _, _, _, _, _, _, h3 => by simp at h3
theorem avOk_len {kp : Bool} : ∀ {io : List Bool} {avs : List AV}, avOk kp io avs = true → io.length = avs.length
  | [], [], _ => rfl
  | b :: io, a :: avs, h => by
    simp only [avOk, Bool.and_eq_true] at h
    simp [avOk_len h.2]
  | [], _ :: _, h => nomatch h
  | _ :: _, [], h => nomatch h
theorem avOk_get {kp : Bool} : ∀ {io : List Bool} {avs : List AV} {j : Nat} {b : Bool} {a : AV}, avOk kp io avs = true → io[j]? = some b → avs[j]? = some a → okM kp b a = true
  | b :: io, a :: avs, 0, _, _, h, h1, h2 => by
    simp only [avOk, Bool.and_eq_true] at h
    simp at h1 h2; subst h1 h2; exact h.1
  | b :: io, a :: avs, j + 1, _, _, h, h1, h2 => by
    simp only [avOk, Bool.and_eq_true] at h
    simp at h1 h2; exact avOk_get h.2 h1 h2
  | [], _, _, _, _, _, h1, _ => by simp at h1
  | _ :: _, [], _, _, _, _, _, h2 => by simp at h2
theorem mkK_len : ∀ {io : List Bool} {avs : List AV} {vs : List V}, io.length = avs.length → avs.length = vs.length → (mkK io avs vs).length = vs.length
  | [], [], [], _, _ => rfl
  | b :: io, a :: avs, v :: vs, h, h' => by simp [mkK, mkK_len (io := io) (avs := avs) (vs := vs) (by simpa using h) (by simpa using h')]
theorem pl_mem : ∀ {avs : List AV} {j : Nat} {x : Pl}, avs[j]? = some (.pl x) → x ∈ avPls avs
  | [], _, _, h => by simp at h
  | .pl y :: avs, 0, x, h => by simp at h; subst h; exact List.mem_cons_self
  | .val _ _ :: avs, 0, x, h => by simp at h
  | .pl y :: avs, j + 1, x, h => List.mem_cons_of_mem _ (pl_mem (by simpa using h))
  | .val _ _ :: avs, j + 1, x, h => pl_mem (avs := avs) (by simpa using h)
theorem pl_inj : ∀ {avs : List AV} {j j' : Nat} {x : Pl}, (avPls avs).Nodup → avs[j]? = some (.pl x) → avs[j']? = some (.pl x) → j = j'
  | [], _, _, _, _, h, _ => by simp at h
  | .pl y :: avs, 0, 0, x, _, _, _ => rfl
  | .val _ _ :: avs, 0, _, x, _, h, _ => by simp at h
  | .val _ _ :: avs, _, 0, x, _, _, h => by simp at h
  | .pl y :: avs, 0, j' + 1, x, n, h, h' => by
    simp at h; subst h
    exact absurd (pl_mem (by simpa using h')) (List.nodup_cons.mp n).1
  | .pl y :: avs, j + 1, 0, x, n, h, h' => by
    simp at h'; subst h'
    exact absurd (pl_mem (by simpa using h)) (List.nodup_cons.mp n).1
  | .pl y :: avs, j + 1, j' + 1, x, n, h, h' => congrArg Nat.succ (pl_inj (avs := avs) (x := x) (List.nodup_cons.mp n).2 (by simpa using h) (by simpa using h'))
  | .val _ _ :: avs, j + 1, j' + 1, x, n, h, h' => congrArg Nat.succ (pl_inj (avs := avs) (x := x) n (by simpa using h) (by simpa using h'))
theorem fr_pos : ∀ {avs : List AV} {j : Nat} {d : D}, avs[j]? = some (.val d true) → 0 < frN avs
  | [], _, _, h => by simp at h
  | .val d' true :: avs, _, d, h => by simp [frN]
  | .val d' false :: avs, 0, d, h => by simp at h
  | .pl x :: avs, 0, d, h => by simp at h
  | .val d' false :: avs, j + 1, d, h => fr_pos (avs := avs) (by simpa using h)
  | .pl x :: avs, j + 1, d, h => fr_pos (avs := avs) (by simpa using h)
theorem fr_inj : ∀ {avs : List AV} {j j' : Nat} {d d' : D}, frN avs ≤ 1 → avs[j]? = some (.val d true) → avs[j']? = some (.val d' true) → j = j'
  | [], _, _, _, _, _, h, _ => by simp at h
  | .val e true :: avs, 0, 0, _, _, _, _, _ => rfl
  | .val e false :: avs, 0, _, _, _, _, h, _ => by simp at h
  | .val e false :: avs, _, 0, _, _, _, _, h => by simp at h
  | .pl e :: avs, 0, _, _, _, _, h, _ => by simp at h
  | .pl e :: avs, _, 0, _, _, _, _, h => by simp at h
  | .val e true :: avs, 0, j' + 1, d, d', n, h, h' => by
    have := fr_pos (avs := avs) (j := j') (d := d') (by simpa using h')
    simp [frN] at n; omega
  | .val e true :: avs, j + 1, 0, d, d', n, h, h' => by
    have := fr_pos (avs := avs) (j := j) (d := d) (by simpa using h)
    simp [frN] at n; omega
  | .val e true :: avs, j + 1, j' + 1, d, d', n, h, h' => by
    have := fr_pos (avs := avs) (j := j) (d := d) (by simpa using h)
    simp [frN] at n; omega
  | .val e false :: avs, j + 1, j' + 1, d, d', n, h, h' => congrArg Nat.succ (fr_inj (avs := avs) (d := d) (d' := d') n (by simpa using h) (by simpa using h'))
  | .pl e :: avs, j + 1, j' + 1, d, d', n, h, h' => congrArg Nat.succ (fr_inj (avs := avs) (d := d) (d' := d') n (by simpa using h) (by simpa using h'))
theorem avDats_get {en : Stt} : ∀ {avs : List AV} {ds : List D} {j : Nat} {a : AV}, avDats en avs = some ds → avs[j]? = some a → ∃ d, ds[j]? = some d ∧ a.dat en = some d
  | [], _, _, _, _, h => by simp at h
  | a :: avs, ds, j, a', e, h => by
    unfold avDats at e
    cases h1 : a.dat en with
    | none => rw [h1] at e; cases e
    | some d =>
      cases h2 : avDats en avs with
      | none => rw [h1, h2] at e; cases e
      | some ds' =>
        rw [h1, h2] at e; cases e
        cases j with
        | zero => simp at h; subst h; exact ⟨d, rfl, h1⟩
        | succ j => simpa using avDats_get h2 (by simpa using h)
theorem avDats_len {en : Stt} : ∀ {avs : List AV} {ds : List D}, avDats en avs = some ds → avs.length = ds.length
  | [], _, h => by cases h; rfl
  | a :: avs, ds, e => by
    unfold avDats at e
    cases h1 : a.dat en with
    | none => rw [h1] at e; cases e
    | some d =>
      cases h2 : avDats en avs with
      | none => rw [h1, h2] at e; cases e
      | some ds' =>
        rw [h1, h2] at e; cases e
        simp [avDats_len h2]
theorem paired_get2 {α β : Type} {R : α → β → Prop} : ∀ {as : List α} {bs : List β} {j : Nat} {a : α}, Paired R as bs → as[j]? = some a → ∃ b, bs[j]? = some b ∧ R a b
  | _, _, _, _, .nil, h => by simp at h
  | _, _, 0, _, .cons r t, h => by simp at h; subst h; exact ⟨_, rfl, r⟩
  | _, _, j + 1, _, .cons r t, h => by simpa using paired_get2 t (by simpa using h)
section
variable {G : Gb} {W Wc W0 W1 W2 W' : Wd} {σ : L2.St} {en en' en1 en2 en3 : Stt} {d e : D} {v u : V} {avs : List AV} {io : List Bool} {ds : List D} {vs : List V} {ob kp q : Bool} {X : Cx}
/-- the new things that are lent are taken in -/
def Wd.take (W : Wd) (ks : List AK) : Wd := { W with O := fun p => W.O p ∨ AK.lt p ∈ ks }
theorem lt_of {p : Addr} (hm : avOk kp io avs = true) (av : AvsOk G W0 W σ avs vs) (h : AK.lt p ∈ mkK io avs vs) : ∃ (j : Nat) (d : D), avs[j]? = some (.val d true) ∧ io[j]? = some true ∧ vs[j]? = some (.ref p) ∧ W0.H p = none ∧ W.U p = none ∧ ¬ W.O p ∧ Cont G W d p := by
  obtain ⟨j, hj⟩ := List.getElem?_of_mem h
  obtain ⟨b, a, v, e1, e2, e3, e4⟩ := mkK_get hj
  have hb := avOk_get hm e1 e2
  cases a with
  | val d fr =>
    cases fr with
    | false => cases b <;> cases e4
    | true =>
      have e5 : AK.lt p = AK.lt (refOf v) := by cases b <;> exact e4
      obtain ⟨v', z1, p', z2, z3, z4, z5, z6⟩ := paired_get2 av e2
      rw [e3] at z1; cases z1
      subst z2
      cases e5
      cases b with
      | false => cases hb
      | true => exact ⟨j, d, e2, e1, e3, z3, z4, z5, z6⟩
  | pl x => cases b <;> cases x <;> cases e4
theorem take_ok (ok : W.Ok) (hm : avOk kp io avs = true) (av : AvsOk G W0 W σ avs vs) : (W.take (mkK io avs vs)).Ok where
  sub := fun p o e => ⟨(ok.sub p o e).1, fun z => z.elim (ok.sub p o e).2 fun z => by
    obtain ⟨j, d, _, _, _, _, h2, _⟩ := lt_of hm av z
    have e : W.U p = some o := e
    rw [h2] at e; cases e⟩
  own := fun p z => z.elim (ok.own p) fun z => by
    obtain ⟨j, d, _, _, _, _, _, _, h⟩ := lt_of hm av z
    exact h.there
  bas := ok.bas
theorem take_step (st : Step W0 W) (hm : avOk kp io avs = true) (av : AvsOk G W0 W σ avs vs) : Step W0 (W.take (mkK io avs vs)) where
  B := st.B
  U := st.U
  H := st.H
  K := st.K
  N := fun p z => by
    rcases z with z | z | z
    · exact st.N p (.inl z)
    · exact st.N p (.inr z)
    · obtain ⟨j, d, _, _, _, h1, _⟩ := lt_of hm av z
      exact .inr (.inr h1)
  A := st.A
theorem SlotOk.moreO {s : Slot} {p : Addr} {O' : Addr → Prop} (hO : ∀ p, W.O p → O' p) (h : SlotOk G W p s v) : SlotOk G { W with O := O' } p s v := by
  cases s with
  | no => trivial
  | sh d => exact h
  | ow d => exact ⟨h.1, hO _ h.2.1, h.2.2.1, h.2.2.2⟩
  | io d => exact ⟨h.1, hO _ h.2.1, h.2.2⟩
theorem Rep.moreO {O' : Addr → Prop} (hO : ∀ p, W.O p → O' p) (r : Rep G W σ en) : Rep G { W with O := O' } σ en where
  len := r.len
  obs := r.obs
  nod := r.nod
  ob := fun n ob e => by
    obtain ⟨a, dx, fs, h1, h2, h3, h4, h5, h6⟩ := (r.ob n ob e).ex
    exact ⟨a, dx, fs, h1, h2, hO _ h3, hO _ h4, h5, h6⟩
  nof := r.nof
  ex := by
    obtain ⟨own, h1, h2⟩ := r.ex
    refine ⟨own, fun x => ?_, h2⟩
    rcases h1 x with e | ⟨v, e1, e2⟩
    · exact .inl e
    · refine .inr ⟨v, ?_, e2.moreO hO⟩
      cases x with
      | loc i => exact e1
      | fld n f => exact e1
theorem mk1_io {b : Bool} {a : AV} (h : okM kp b a = true) (hf : b = true → ∀ n f, a ≠ .pl (.fld n f)) : (mk1 b a v).io = b := by
  cases a with
  | val d fr => cases fr <;> cases b <;> first | rfl | cases h
  | pl x =>
    cases x with
    | loc i => cases b <;> rfl
    | fld n f => cases b with
      | false => rfl
      | true => exact absurd rfl (hf rfl n f)
theorem ioC_fld : ∀ {avs : List AV} {io : List Bool} {outs : List D} {en en' : Stt}, ioC avs io outs en = some en' → ∀ (j n f : Nat), io[j]? = some true → avs[j]? ≠ some (.pl (.fld n f))
  | [], _, _, _, _, _, _, _, _, _ => by simp
  | a :: avs, [], _, _, _, _, _, _, _, h => by simp at h
  | .pl (.loc i) :: avs, true :: io, [], en, en', h, _, _, _, _ => by simp [ioC] at h
  | .pl (.loc i) :: avs, true :: io, d :: outs, en, en', h, j, n, f, hj => by
    unfold ioC at h
    cases j with
    | zero => simp
    | succ j =>
      simp only [List.getElem?_cons_succ] at hj ⊢
      split at h
      · exact ioC_fld h j n f hj
      · exact ioC_fld h j n f hj
      · cases h
  | .pl (.fld _ _) :: avs, true :: io, outs, en, en', h, _, _, _, _ => by cases outs <;> simp [ioC] at h
  | .val _ true :: avs, true :: io, [], en, en', h, _, _, _, _ => by simp [ioC] at h
  | .val _ true :: avs, true :: io, d :: outs, en, en', h, j, n, f, hj => by
    cases j with
    | zero => simp
    | succ j =>
      simp only [List.getElem?_cons_succ] at hj ⊢
      exact ioC_fld (show ioC avs io outs en = some en' from h) j n f hj
  | .val _ false :: avs, true :: io, outs, en, en', h, _, _, _, _ => by cases outs <;> simp [ioC] at h
  | .val _ fr :: avs, false :: io, outs, en, en', h, j, n, f, hj => by
    cases j with
    | zero => simp at hj
    | succ j =>
      simp only [List.getElem?_cons_succ] at hj ⊢
      exact ioC_fld (show ioC avs io outs en = some en' by cases fr <;> cases outs <;> exact h) j n f hj
  | .pl (.loc _) :: avs, false :: io, outs, en, en', h, j, n, f, hj => by
    cases j with
    | zero => simp at hj
    | succ j =>
      simp only [List.getElem?_cons_succ] at hj ⊢
      exact ioC_fld (show ioC avs io outs en = some en' by cases outs <;> exact h) j n f hj
  | .pl (.fld _ _) :: avs, false :: io, outs, en, en', h, j, n, f, hj => by
    cases j with
    | zero => simp at hj
    | succ j =>
      simp only [List.getElem?_cons_succ] at hj ⊢
      exact ioC_fld (show ioC avs io outs en = some en' by cases outs <;> exact h) j n f hj
end
end Py
/-! A call of a def: the rule. -/
namespace Py
open PySem PySem.Spec PyProof.Rows L2
open Classical
section
variable {G : Gb} {W Wc W0 W1 W2 W' : Wd} {σ : L2.St} {en en' en1 en2 en3 : Stt} {d e : D} {v u : V} {avs : List AV} {io : List Bool} {ds : List D} {vs : List V} {ob kp q : Bool} {X : Cx}
theorem ioC_back : ∀ {avs : List AV} {io : List Bool} {outs : List D} {en en' : Stt} {vs : List V} {ds : List D}, ioC avs io outs en = some en' → (avPls avs).Nodup → io.length = avs.length → avs.length = vs.length → avs.length = ds.length →
    (∀ i, (∀ j : Nat, (mkK io avs vs)[j]? ≠ some (.lp i)) → en'.at (.loc i) = en.at (.loc i)) ∧
    (∀ (j i : Nat), (mkK io avs vs)[j]? = some (.lp i) → ∃ o, (outS io ds outs)[j]? = some (.io o) ∧ en'.at (.loc i) = (en.at (.loc i)).upd o) ∧ en'.obs = en.obs ∧ en'.loc.length = en.loc.length
  | [], [], [], en, en', vs, ds, h, _, _, _, _ => by
    simp [ioC] at h; subst h
    exact ⟨fun _ _ => rfl, fun j i e => by simp [mkK] at e, rfl, rfl⟩
  | [], [], _ :: _, en, en', vs, ds, h, _, _, _, _ => by simp [ioC] at h
  | [], _ :: _, _, _, _, _, _, _, _, h, _, _ => by simp at h
  | _ :: _, [], _, _, _, _, _, _, _, h, _, _ => by simp at h
  | _ :: _, _, _, _, _, [], _, _, _, _, h, _ => by simp at h
  | _ :: _, _, _, _, _, _, [], _, _, _, _, h => by simp at h
  | .pl (.fld _ _) :: avs, true :: io, outs, en, en', v :: vs, d :: ds, h, _, _, _, _ => by cases outs <;> simp [ioC] at h
  | .val _ false :: avs, true :: io, outs, en, en', v :: vs, d :: ds, h, _, _, _, _ => by cases outs <;> simp [ioC] at h
  | .pl (.loc i) :: avs, true :: io, [], en, en', v :: vs, d :: ds, h, _, _, _, _ => by simp [ioC] at h
  | .val _ true :: avs, true :: io, [], en, en', v :: vs, d :: ds, h, _, _, _, _ => by simp [ioC] at h
  | .val _ true :: avs, true :: io, o :: outs, en, en', v :: vs, d :: ds, h, n, l1, l2, l3 => by
    obtain ⟨a1, a2, a3, a4⟩ := ioC_back (avs := avs) (io := io) (outs := outs) (vs := vs) (ds := ds) h n (by simpa using l1) (by simpa using l2) (by simpa using l3)
    refine ⟨fun i hi => a1 i fun j e => hi (j + 1) (by simpa [mkK] using e), fun j i e => ?_, a3, a4⟩
    cases j with
    | zero => simp [mkK, mk1] at e
    | succ j => simpa [outS] using a2 j i (by simpa [mkK] using e)
  | .val _ fr :: avs, false :: io, outs, en, en', v :: vs, d :: ds, h, n, l1, l2, l3 => by
    have h : ioC avs io outs en = some en' := by cases fr <;> cases outs <;> exact h
    obtain ⟨a1, a2, a3, a4⟩ := ioC_back (avs := avs) (io := io) (outs := outs) (vs := vs) (ds := ds) h n (by simpa using l1) (by simpa using l2) (by simpa using l3)
    refine ⟨fun i hi => a1 i fun j e => hi (j + 1) (by simpa [mkK] using e), fun j i e => ?_, a3, a4⟩
    cases j with
    | zero => cases fr <;> simp [mkK, mk1] at e
    | succ j => simpa [outS] using a2 j i (by simpa [mkK] using e)
  | .pl x :: avs, false :: io, outs, en, en', v :: vs, d :: ds, h, n, l1, l2, l3 => by
    have h : ioC avs io outs en = some en' := by cases x <;> cases outs <;> exact h
    obtain ⟨a1, a2, a3, a4⟩ := ioC_back (avs := avs) (io := io) (outs := outs) (vs := vs) (ds := ds) h (List.nodup_cons.mp n).2 (by simpa using l1) (by simpa using l2) (by simpa using l3)
    refine ⟨fun i hi => a1 i fun j e => hi (j + 1) (by simpa [mkK] using e), fun j i e => ?_, a3, a4⟩
    cases j with
    | zero => cases x <;> simp [mkK, mk1] at e
    | succ j => simpa [outS] using a2 j i (by simpa [mkK] using e)
  | .pl (.loc i) :: avs, true :: io, o :: outs, en, en', v :: vs, d :: ds, h, n, l1, l2, l3 => by
    have hn := List.nodup_cons.mp n
    have key : ∀ s : Slot, en.at (.loc i) ≠ .no → s = (en.at (.loc i)).upd o → ioC avs io outs (en.set i s) = some en' → _ := fun s hne hs h => by
      have hi : i < en.loc.length := getD_lt hne
      obtain ⟨a1, a2, a3, a4⟩ := ioC_back (avs := avs) (io := io) (outs := outs) (vs := vs) (ds := ds) h hn.2 (by simpa using l1) (by simpa using l2) (by simpa using l3)
      have nol : ∀ j : Nat, (mkK io avs vs)[j]? ≠ some (.lp i) := fun j e => by
        obtain ⟨b, a, w, e1, e2, e3, e4⟩ := mkK_get e
        have : a = .pl (.loc i) := by
          cases a with
          | val d fr => cases fr <;> cases b <;> cases e4
          | pl x =>
            cases x with
            | loc i' => cases b <;> cases e4; rfl
            | fld m f => cases b <;> cases e4
        subst this
        exact hn.1 (pl_mem e2)
      exact (⟨fun i' hi' => by
        have hne' : i' ≠ i := fun e => hi' 0 (by subst e; simp [mkK, mk1])
        rw [a1 i' fun j e => hi' (j + 1) (by simpa [mkK] using e), at_set hi, if_neg (fun z => hne' (by cases z; rfl))], fun j i' e => by
        cases j with
        | zero =>
          simp [mkK, mk1] at e
          subst e
          refine ⟨o, by simp [outS], ?_⟩
          rw [a1 i nol, at_set hi, if_pos rfl, hs]
        | succ j =>
          have e : (mkK io avs vs)[j]? = some (.lp i') := by simpa [mkK] using e
          obtain ⟨o', z1, z2⟩ := a2 j i' e
          have hne' : i' ≠ i := fun z => nol j (z ▸ e)
          refine ⟨o', by simpa [outS] using z1, ?_⟩
          rw [z2, at_set hi, if_neg (fun z => hne' (by cases z; rfl))], a3, by rw [a4]; simp [Stt.set]⟩ : (∀ i', (∀ j : Nat, (mkK (true :: io) (.pl (.loc i) :: avs) (v :: vs))[j]? ≠ some (.lp i')) → en'.at (.loc i') = en.at (.loc i')) ∧
          (∀ (j i' : Nat), (mkK (true :: io) (.pl (.loc i) :: avs) (v :: vs))[j]? = some (.lp i') → ∃ o', (outS (true :: io) (d :: ds) (o :: outs))[j]? = some (.io o') ∧ en'.at (.loc i') = (en.at (.loc i')).upd o') ∧ en'.obs = en.obs ∧ en'.loc.length = en.loc.length)
    unfold ioC at h
    split at h
    · rename_i d' hat
      exact key _ (by rw [hat]; intro z; cases z) (by rw [hat]; rfl) h
    · rename_i d' hat
      exact key _ (by rw [hat]; intro z; cases z) (by rw [hat]; rfl) h
    · cases h
theorem ks_io (hm : avOk kp io avs = true) (hf : ∀ (j n f : Nat), io[j]? = some true → avs[j]? ≠ some (.pl (.fld n f))) (hl : avs.length = vs.length) : (mkK io avs vs).map AK.io = io := by
  have h1 := avOk_len hm
  refine List.ext_getElem? fun j => ?_
  rw [List.getElem?_map]
  cases e : (mkK io avs vs)[j]? with
  | none =>
    have := List.getElem?_eq_none_iff.mp e
    rw [mkK_len h1 hl] at this
    exact (List.getElem?_eq_none (by omega)).symm
  | some k =>
    obtain ⟨b, a, v, e1, e2, e3, e4⟩ := mkK_get e
    rw [e1, e4]
    show some (mk1 b a v).io = some b
    rw [mk1_io (avOk_get hm e1 e2) fun hb n f z => hf j n f (by rw [e1, hb]) (by rw [e2, z])]
theorem Paired.len {α β : Type} {R : α → β → Prop} : ∀ {as : List α} {bs : List β}, Paired R as bs → as.length = bs.length
  | _, _, .nil => rfl
  | _, _, .cons _ t => congrArg (· + 1) (Paired.len t)
theorem hand_of (rp : Rep G W σ en) (hm : avOk kp io avs = true) (av : AvsOk G W0 W σ avs vs) (hn : (avPls avs).Nodup) (hfr : frN avs ≤ 1) (hd : avDats en avs = some ds) (hf : ∀ (j n f : Nat), io[j]? = some true → avs[j]? ≠ some (.pl (.fld n f)))
    (hpl : ∀ (j : Nat) (x : Pl), avs[j]? = some (AV.pl x) → (en.at x).own = true) :
    ∃ own, Hand G (W.take (mkK io avs vs)) σ en own (mkK io avs vs) ds vs ∧ Apart own (mkK io avs vs) := by
  obtain ⟨own, h1, h2⟩ := rp.ex
  have hl := Paired.len av
  have hl1 := avOk_len hm
  have rp' := rp.moreO (O' := fun p => W.O p ∨ AK.lt p ∈ mkK io avs vs) fun _ => .inl
  have ownO : ∀ x, (en.at x).own = true → W.O (own x) := fun x hx => by
    rcases h1 x with e | ⟨v, _, e⟩
    · rw [e] at hx; cases hx
    · obtain ⟨d, z | z⟩ := Slot.own_ow hx
      · rw [z] at e; exact e.2.1
      · rw [z] at e; exact e.2.1
  have plOk : ∀ (j : Nat) (x : Pl) (v : V) (d : D), avs[j]? = some (.pl x) → vs[j]? = some v → (en.at x).dat = some d → (en.at x).own = true ∧ v = .ref (own x) ∧ W.O (own x) ∧ Cont G W d (own x) := fun j x v d e1 e2 e3 => by
    obtain ⟨v', z1, z2⟩ := paired_get2 av e1
    rw [e2] at z1; cases z1
    have hx := hpl j x e1
    rcases h1 x with y | ⟨u, y1, y2⟩
    · rw [y] at hx; cases hx
    · have : v = u := ValAt.inj (x := x) z2 y1
      subst this
      generalize hs : en.at x = s at y2 e3 hx
      cases s with
      | no => cases hx
      | sh d' => cases hx
      | ow d' => cases e3; exact ⟨rfl, y2.1, y2.2.1, y2.2.2.2⟩
      | io d' => cases e3; exact ⟨rfl, y2.1, y2.2.1, y2.2.2⟩
  -- where a kind comes from
  have src : ∀ (j : Nat) (k : AK), (mkK io avs vs)[j]? = some k → ∃ b a v d, io[j]? = some b ∧ avs[j]? = some a ∧ vs[j]? = some v ∧ ds[j]? = some d ∧ k = mk1 b a v ∧ a.dat en = some d ∧ okM kp b a = true := fun j k e => by
    obtain ⟨b, a, v, e1, e2, e3, e4⟩ := mkK_get e
    obtain ⟨d, e5, e6⟩ := avDats_get hd e2
    exact ⟨b, a, v, d, e1, e2, e3, e5, e4, e6, avOk_get hm e1 e2⟩
  have lpSrc : ∀ {j i : Nat}, (mkK io avs vs)[j]? = some (.lp i) → avs[j]? = some (.pl (.loc i)) := fun {j i} e => by
    obtain ⟨b, a, v, d, e1, e2, e3, e4, e5, e6, e7⟩ := src j _ e
    cases a with
    | val d' fr => cases fr <;> cases b <;> cases e5
    | pl x =>
      cases x with
      | loc i' => cases b <;> cases e5; exact e2
      | fld m f => cases b <;> cases e5
  have kpSrc : ∀ {j : Nat} {x : Pl}, (mkK io avs vs)[j]? = some (.kp x) → avs[j]? = some (.pl x) := fun {j x} e => by
    obtain ⟨b, a, v, d, e1, e2, e3, e4, e5, e6, e7⟩ := src j _ e
    cases a with
    | val d' fr => cases fr <;> cases b <;> cases e5
    | pl y =>
      cases y with
      | loc i' => cases b <;> cases e5; exact e2
      | fld m f => cases b <;> cases e5 <;> exact e2
  refine ⟨own, ⟨fun x => ?_, h2, by rw [mkK_len hl1 hl, ← hl]; exact avDats_len hd, mkK_len hl1 hl, fun j k e => ?_, fun i j k k' p e1 e2 a1 a2 => ?_⟩, fun p ⟨x, hx, ex⟩ ⟨k, hk, ek⟩ => ?_⟩
  · rcases h1 x with e | ⟨v, e1, e2⟩
    · exact .inl e
    · refine .inr ⟨v, ?_, e2.moreO fun _ => .inl⟩
      cases x with
      | loc i => exact e1
      | fld n f => exact e1
  · obtain ⟨b, a, v, d, e1, e2, e3, e4, e5, e6, e7⟩ := src j k e
    refine ⟨d, v, e4, e3, ?_⟩
    cases a with
    | val d' fr =>
      cases e6
      cases fr with
      | false =>
        have : k = .sh := by cases b <;> exact e5
        subst this
        obtain ⟨v', z1, z2⟩ := paired_get2 av e2
        rw [e3] at z1; cases z1
        exact z2
      | true =>
        have : k = .lt (refOf v) := by cases b <;> exact e5
        subst this
        obtain ⟨v', z1, p, z2, z3, z4, z5, z6⟩ := paired_get2 av e2
        rw [e3] at z1; cases z1
        subst z2
        refine ⟨rfl, .inr (List.mem_of_getElem? e), z6, fun x hx z => z5 (by have z : own x = p := z; rw [← z]; exact ownO x hx)⟩
    | pl x =>
      obtain ⟨y1, y2, y3, y4⟩ := plOk j x v d e2 e3 e6
      cases x with
      | loc i =>
        cases b with
        | true => have : k = .lp i := e5; subst this; exact ⟨y1, y2, .inl y3, y4⟩
        | false => have : k = .kp (.loc i) := e5; subst this; exact ⟨y1, y2, .inl y3, y4⟩
      | fld n f =>
        have : k = .kp (.fld n f) := by cases b <;> exact e5
        subst this
        exact ⟨y1, y2, .inl y3, y4⟩
  · -- distinct
    cases k with
    | sh => cases a1
    | kp x => cases a1
    | lp i1 =>
      have a1 : own (.loc i1) = p := Option.some.inj a1
      cases k' with
      | sh => cases a2
      | kp x => cases a2
      | lp i2 =>
        have a2 : own (.loc i2) = p := Option.some.inj a2
        have q1 := lpSrc e1
        have q2 := lpSrc e2
        have := h2 _ _ (hpl _ _ q1) (hpl _ _ q2) (a1.trans a2.symm)
        cases this
        exact pl_inj hn q1 q2
      | lt p2 =>
        have a2 : p2 = p := Option.some.inj a2
        obtain ⟨_, _, _, _, _, _, _, z, _⟩ := lt_of hm av (List.mem_of_getElem? e2)
        exact absurd (ownO _ (hpl _ _ (lpSrc e1))) (by rw [a1, ← a2]; exact z)
    | lt p1 =>
      have a1 : p1 = p := Option.some.inj a1
      cases k' with
      | sh => cases a2
      | kp x => cases a2
      | lp i2 =>
        have a2 : own (.loc i2) = p := Option.some.inj a2
        obtain ⟨_, _, _, _, _, _, _, z, _⟩ := lt_of hm av (List.mem_of_getElem? e1)
        exact absurd (ownO _ (hpl _ _ (lpSrc e2))) (by rw [a2, ← a1]; exact z)
      | lt p2 =>
        have f : ∀ {j : Nat} {p : Addr}, (mkK io avs vs)[j]? = some (.lt p) → ∃ d, avs[j]? = some (.val d true) := fun {j p} e => by
          obtain ⟨b, a, v, d, e1, e2, e3, e4, e5, e6, e7⟩ := src j _ e
          cases a with
          | val d' fr =>
            cases fr with
            | false => cases b <;> cases e5
            | true => exact ⟨d', e2⟩
          | pl y => cases y <;> cases b <;> cases e5
        obtain ⟨d1, q1⟩ := f e1
        obtain ⟨d2, q2⟩ := f e2
        exact fr_inj hfr q1 q2
  · obtain ⟨j, hj⟩ := List.getElem?_of_mem hx
    obtain ⟨j', hj'⟩ := List.getElem?_of_mem hk
    have q1 := kpSrc hj
    cases k with
    | sh => cases ek
    | kp x => cases ek
    | lp i =>
      have ek : own (.loc i) = p := Option.some.inj ek
      have q2 := lpSrc hj'
      have := h2 _ _ (hpl _ _ q1) (hpl _ _ q2) (ex.trans ek.symm)
      subst this
      have := pl_inj hn q1 q2
      subst this
      rw [hj] at hj'; cases hj'
    | lt p' =>
      have ek : p' = p := Option.some.inj ek
      obtain ⟨_, _, _, _, _, _, _, z, _⟩ := lt_of hm av hk
      exact z (by rw [ek, ← ex]; exact ownO _ (hpl _ _ q1))
theorem kp_none (hm : avOk false io avs = true) (hf : ∀ (j n f : Nat), io[j]? = some true → avs[j]? ≠ some (.pl (.fld n f))) : ∀ x, AK.kp x ∉ mkK io avs vs := fun x h => by
  obtain ⟨j, hj⟩ := List.getElem?_of_mem h
  obtain ⟨b, a, v, e1, e2, e3, e4⟩ := mkK_get hj
  have hb := avOk_get hm e1 e2
  cases a with
  | val d fr => cases fr <;> cases b <;> cases e4
  | pl y =>
    cases b with
    | false => cases hb
    | true =>
      cases y with
      | loc i => cases e4
      | fld n f => exact hf j n f e1 e2
end
end Py
namespace Py
open PySem PySem.Spec PyProof.Rows L2
open Classical
section
variable {G : Gb} {W Wc W0 W1 W2 W' : Wd} {σ : L2.St} {en en' en1 en2 en3 : Stt} {d e : D} {v u : V} {avs : List AV} {io : List Bool} {ds : List D} {vs : List V} {ob kp q : Bool} {X : Cx}
theorem pl_at : ∀ {avs : List AV} {x : Pl}, x ∈ avPls avs → ∃ j : Nat, avs[j]? = some (.pl x)
  | [], _, h => by cases h
  | .pl y :: avs, x, h => by
    rcases List.mem_cons.mp h with e | h
    · exact ⟨0, by simp [e]⟩
    · obtain ⟨j, e⟩ := pl_at h; exact ⟨j + 1, by simpa using e⟩
  | .val _ _ :: avs, x, h => by obtain ⟨j, e⟩ := pl_at (avs := avs) h; exact ⟨j + 1, by simpa using e⟩
theorem QS.f {W W' : Wd} : QS false W W' := fun h => nomatch h
theorem call_run (T : Tab) (Φ : Nat → FnSem) (f : Nat) {r : R} (ok : W.Ok) (st : Step W0 W) (rp : Rep G W σ en) (hm : avOk (T.kp f && !(T.ob f)) (T.io f) avs = true) (av : AvsOk G W0 W σ avs vs) (hc : callF T Φ f avs en = some r)
    {Q : VK} (k : ∀ v W', Step W0 W' → W'.Ok → Rep G W' σ r.en → Val G W0 W' r.fr r.d v → Q v W'.H) {E : XK} : spF G (T.io f) (Φ f) vs W.H Q E := by
  unfold callF at hc
  split at hc
  case isFalse => cases hc
  rename_i hcond
  obtain ⟨hn, hfr, hpl⟩ := hcond
  have hpl' : ∀ (j : Nat) (x : Pl), avs[j]? = some (AV.pl x) → (en.at x).own = true := fun j x e => List.all_eq_true.mp hpl x (pl_mem e)
  split at hc
  case h_2 => cases hc
  rename_i ds hd
  have hl := Paired.len av
  have hl1 := avOk_len hm
  have hl2 := avDats_len hd
  have main : ∀ (ob : Bool) (rr : Ret), T.ob f = ob → (ob = true ∨ ds.all (noO 40) = true) → Φ f ds (if ob = true then en.obs else []) = some rr → (ob = true ∨ noO 40 rr.d = true ∧ rr.outs.all (noO 40) = true ∧ (T.kp f = true → keepOk rr = true)) →
      ∀ en', ioC avs (T.io f) rr.outs (if ob = true then { en with obs := rr.obs } else en) = some en' → (∀ v W', Step W0 W' → W'.Ok → Rep G W' σ en' → Val G W0 W' rr.fr rr.d v → Q v W'.H) → spF G (T.io f) (Φ f) vs W.H Q E := by
    intro ob rr hob hno hphi hres en' hio k
    have hf := ioC_fld hio
    obtain ⟨own, hand, apart⟩ := hand_of rp hm av hn hfr hd hf hpl'
    have hks := ks_io hm hf hl
    have ok2 := take_ok ok hm av
    have st2 := take_step st hm av
    have rp2 : Rep G (W.take (mkK (T.io f) avs vs)) σ en := rp.moreO fun _ => .inl
    have hkp : ob = true → ∀ x, AK.kp x ∉ mkK (T.io f) avs vs := fun h => kp_none (by rw [hob, h] at hm; simpa using hm) hf
    have rin := inner_rep (ob := ob) ok2 rp2 hand hno hkp
    rw [hks] at rin
    refine ⟨inner (W.take (mkK (T.io f) avs vs)) en own (mkK (T.io f) avs vs) ob, ds, _, rr, rfl, inner_ok ok2 hand apart hkp, rin, by rw [← hl, hl1], hphi, fun v Wc stc okc rc vl => ?_⟩
    obtain ⟨b1, b2, b3, b4⟩ := ioC_back (vs := vs) (ds := ds) hio hn hl1 hl hl2
    have bk : Back en en' (mkK (T.io f) avs vs) ds rr.outs ob rr.obs := by
      refine ⟨fun i hi => ?_, fun j i e => ?_, ?_, ?_⟩
      · rw [b1 i hi]; cases ob <;> rfl
      · obtain ⟨o, z1, z2⟩ := b2 j i e
        exact ⟨o, by rw [hks]; exact z1, by rw [z2]; cases ob <;> rfl⟩
      · rw [b3]; cases ob <;> rfl
      · rw [b4]; cases ob <;> rfl
    rw [← hks] at rc
    have hk2 : ob = true ∨ T.kp f = true ∨ ∀ x, AK.kp x ∉ mkK (T.io f) avs vs := by
      cases hk : T.kp f with
      | true => exact .inr (.inl rfl)
      | false => exact .inr (.inr (kp_none (by rw [hk] at hm; simpa using hm) hf))
    have keepP : keepOk rr = true → (if rr.fr = true then immP rr.d else imm 40 rr.d) = true ∧ ∀ o ∈ rr.outs, immP o = true := fun h => by
      unfold keepOk at h
      rw [Bool.and_eq_true] at h
      exact ⟨h.1, fun o ho => List.all_eq_true.mp h.2 o ho⟩
    have ho : ∀ o ∈ rr.outs, OutOkP ob own (mkK (T.io f) avs vs) o := fun o hmem => by
      rcases hres with h | ⟨h1, h2, h3⟩
      · exact .inl ⟨h, hkp h⟩
      · refine .inr ⟨List.all_eq_true.mp h2 o hmem, ?_⟩
        rcases hk2 with h | h | h
        · exact .inr (hkp h)
        · exact .inl ((keepP (h3 h)).2 o hmem)
        · exact .inr h
    have rout := outer_rep ok2 okc rp2 hand stc rc bk ho hkp
    have so := outer_step ok2 hand stc
    refine k v (outer (W.take (mkK (T.io f) avs vs)) Wc en own (mkK (T.io f) avs vs) ob) (st2.trans ok2 so) (outer_ok ok2 okc hand stc) rout ?_
    cases hfr' : rr.fr with
    | false =>
      rw [hfr'] at vl
      refine Dat.outer ok2 hand stc ?_ vl
      rcases hres with h | ⟨h1, h2, h3⟩
      · exact .inl ⟨h, hkp h⟩
      · refine .inr ⟨h1, ?_⟩
        rcases hk2 with h | h | h
        · exact .inr (hkp h)
        · have := (keepP (h3 h)).1
          rw [hfr'] at this
          exact .inl this
        · exact .inr h
    | true =>
      rw [hfr'] at vl
      obtain ⟨p, y1, y2, y3, y4, y5⟩ := vl
      refine ⟨p, y1, st2.free y2, ?_, fun z => ?_, y5.outer ok2 hand stc ?_⟩
      · show (if Kept own _ p then none else Wc.U p) = none
        split
        · rfl
        · exact y3
      · rcases z with z | ⟨z, _⟩
        · exact y4 z
        · obtain ⟨o, e⟩ := ok2.own p z
          have y2 : (W.take (mkK (T.io f) avs vs)).H p = none := y2
          rw [y2] at e; cases e
      · rcases hres with h | ⟨h1, h2, h3⟩
        · exact .inl ⟨h, hkp h⟩
        · refine .inr ⟨h1, ?_⟩
          rcases hk2 with h | h | h
          · exact .inr (hkp h)
          · have := (keepP (h3 h)).1
            rw [hfr'] at this
            exact .inl this
          · exact .inr h
  cases hob : T.ob f with
  | true =>
    rw [hob] at hc
    rw [if_pos rfl] at hc
    split at hc
    · rename_i rr hphi
      split at hc
      · rename_i en' hio
        cases hc
        exact main true rr hob (.inl rfl) hphi (.inl rfl) en' hio k
      · cases hc
    · cases hc
  | false =>
    rw [hob] at hc
    rw [if_neg Bool.false_ne_true] at hc
    split at hc
    · rename_i hall
      split at hc
      · rename_i rr hphi
        split at hc
        · rename_i hh
          rw [Bool.and_eq_true, Bool.and_eq_true] at hh
          split at hc
          · rename_i en' hio
            cases hc
            refine main false rr hob (.inr hall) hphi (.inr ⟨hh.1.1, hh.1.2, fun z => ?_⟩) en' hio k
            have := hh.2
            rw [z] at this
            simpa using this
          · cases hc
        · cases hc
      · cases hc
    · cases hc
def isStar : Expr → Bool
  | .Starred .. => true
  | _ => false
theorem star_cons {e : Expr} {es : List Expr} {env : Env} (h : isStar e = false) : starEach (e :: es) env = (false, eval e env) :: starEach es env := by
  cases e <;> first | rfl | cases h
theorem back_any {pos : Pos} {env : Env} : ∀ {es : List Expr}, es.all (fun e => !isStar e) = true → ((backTo pos (starEach es env)).any (·.1)) = false
  | [], _ => rfl
  | e :: es, h => by
    rw [List.all_cons, Bool.and_eq_true] at h
    rw [star_cons (by simpa using h.1)]
    show (false || _) = false
    exact back_any h.2
theorem d_call (hG : G.K = X.K) (T : Tab) (Φ : Nat → FnSem) (f : Nat) {r : R} {x : Str} {p pos : Pos} {e : Expr} {es : List Expr} {fa : Addr} {fd : FuncData} {ps : List Str} {k : Nat}
    (F : FnG X.prog X.w X.K X.mg X.base k fa fd ps (spF G (T.io f) (Φ f))) (hr : Room k X.A) (hga : X.A.guards = some []) (hg : Gl X x) (hmg : X.mg x = some (.ref fa)) (hk : PySem.W.keepIn X.K (.ref fa) = true) (hb : Binds X.K fd ps [])
    (ha : PA X (e :: es) (tArgs G q en avs en1)) (hm : avOk (T.kp f && !(T.ob f)) (T.io f) avs = true) (hc : callF T Φ f avs en1 = some r) (hdb : (x == ("__debug__" : Str)) = false)
    (hs : (e :: es).all (fun e => !isStar e) = true) : PE X (.Call (.Name x p) (e :: es) [] pos) (tD G false en r) := by
  have h1 := List.all_cons ▸ hs
  rw [Bool.and_eq_true] at h1
  refine pe_imp (pe_callG F hr hga hg hmg hk hb ha hdb (star_cons (by simpa using h1.1)) (back_any h1.2)) fun σ H Q _ ⟨W, e1, ok, rp, k⟩ => ?_
  subst e1
  refine ⟨W, rfl, ok, rp, fun vs W1 st1 ok1 rp1 a1 qs1 l1 => ?_⟩
  exact call_run T Φ f ok1 st1 rp1 hm a1 hc fun v W' s o rr vl => fun hl => k v W' s o rr vl QS.f (by rw [hG]; exact hl)
theorem d_call0 (hG : G.K = X.K) (T : Tab) (Φ : Nat → FnSem) (f : Nat) {r : R} {x : Str} {p pos : Pos} {fa : Addr} {fd : FuncData} {ps : List Str} {k : Nat}
    (F : FnG X.prog X.w X.K X.mg X.base k fa fd ps (spF G (T.io f) (Φ f))) (hr : Room k X.A) (hga : X.A.guards = some []) (hg : Gl X x) (hmg : X.mg x = some (.ref fa)) (hk : PySem.W.keepIn X.K (.ref fa) = true) (hb : Binds X.K fd ps [])
    (hm : T.io f = []) (hc : callF T Φ f [] en = some r) (hdb : (x == ("__debug__" : Str)) = false) : PE X (.Call (.Name x p) [] [] pos) (tD G false en r) := by
  refine pe_imp (pe_callG0 F hr hga hg hmg hk hb hdb) fun σ H Q _ ⟨W, e1, ok, rp, k⟩ => ?_
  subst e1
  have key : ∀ Q' : VK, spF G (T.io f) (Φ f) [] W.H Q' E0 → spF G (T.io f) (Φ f) [] W.H Q' E0 := fun _ h => h
  refine key _ ?_
  exact call_run T Φ f ok (Step.refl W) rp (by rw [hm]; rfl) (.nil) hc fun v W' s o rr vl => fun hl => k v W' s o rr vl QS.f (by rw [hG]; exact hl)
end
end Py
/-! What loops and comprehensions walk. -/
namespace Py
open PySem PySem.Spec PyProof.Rows L2
open Classical
/-- J walks xs while Sd holds -/
structure WalkD (G : Gb) (J : It) (xs : List D) (Sd : Wd → Prop) : Prop where
  goes : ∀ W i, Sd W → W.Ok → i < xs.length → J.go i W.H
  stops : ∀ W, Sd W → W.Ok → J.stop xs.length W.H
  yields : ∀ W i x H', Sd W → W.Ok → i < xs.length → J.yld i W.H x H' → ∃ W' d, W'.H = H' ∧ PStep W W' ∧ W'.Ok ∧ xs[i]? = some d ∧ Dat G W'.A W'.U d x
/-- when the source stands: always from W on, or while the place keeps its list -/
def Stands (G : Gb) (σ : L2.St) (W : Wd) (Sd : Wd → Prop) : Option (Pl × List D) → Prop
  | none => ∀ W', Step W W' → W'.Ok → Sd W'
  | some (x, ds) => ∃ i, x = .loc i ∧ ∀ W' σ' en', W'.Ok → Rep G W' σ' en' → (en'.at x).dat = some (.lst ds) → σ'[i]? = σ[i]? → Sd W'
def tSrc (G : Gb) (q : Bool) (en : Stt) (xs : List D) (c : Option (Pl × List D)) (en' : Stt) : TI := fun σ H R => ∃ W : Wd, W.H = H ∧ W.Ok ∧ Rep G W σ en ∧
  ∀ J W' Sd, Step W W' → W'.Ok → Rep G W' σ en' → WalkD G J xs Sd → Stands G σ W' Sd c → Sd W' → (∀ W'', Sd W'' → W''.Ok → LenOk G.K W''.H → xs.length ≤ lim) → QS q W W' → LenOk G.K W'.H → R J W'.H
section
variable {G : Gb} {W W0 W1 W2 W' : Wd} {σ : L2.St} {en en' en1 en2 en3 : Stt} {d e r : D} {v u : V} {q q1 q2 : Bool} {X : Cx} (hG : G.K = X.K) {fr : Bool} {a b : Expr} {tg : Expr}
theorem d_share {r : R} (h : PE X a (tD G q en r)) : PE X a (tD G q en ⟨r.d, false, r.en⟩) :=
  pe_imp h fun σ H Q _ ⟨W, e1, ok, rp, k⟩ => by
    subst e1
    refine ⟨W, rfl, ok, rp, fun v W1 st1 ok1 rp1 a1 qs1 l1 => fun _ => ?_⟩
    obtain ⟨W2, hh, hA, hO, sU, ok2, st2, rp2, dt⟩ := Val.shared ok1 st1 a1 rp1
    have := k v W2 st2 ok2 rp2 dt (fun z => by rw [hh, hA]; exact qs1 z) (by rw [hh]; exact l1)
    rwa [hh] at this
theorem len_lim {n : Nat} (h : n ≤ sizeLine) : n ≤ lim := by rw [lim_line]; exact h
theorem walk_lst {p : Addr} {xs : List D} : WalkD G (Itl G.K p) xs (fun W => ∃ vs, W.H p = some (.lst vs) ∧ DatL G W.A W.U xs vs) where
  goes := fun W i ⟨vs, h1, h2⟩ _ hi => by
    rw [h2.length] at hi
    exact ⟨vs, vs[i], .inl (.inl h1), by simp [hi]⟩
  stops := fun W ⟨vs, h1, h2⟩ _ => ⟨vs, .inl (.inl h1), by rw [h2.length]; exact Nat.le_refl _⟩
  yields := fun W i x H' ⟨vs, h1, h2⟩ ok hi y => by
    obtain ⟨d, e1, e2⟩ := h2.get (y.2 vs (.inl (.inl h1)))
    exact ⟨W, d, y.1.symm, PStep.refl W, ok, e1, e2⟩
theorem walk_tupD {p : Addr} {xs : List D} {vs : List V} : WalkD G (Itt G.K p) xs (fun W => SqT G.K W.H p vs ∧ DatL G W.A W.U xs vs) where
  goes := fun W i ⟨h1, h2⟩ _ hi => by
    rw [h2.length] at hi
    exact ⟨vs, vs[i], h1, by simp [hi]⟩
  stops := fun W ⟨h1, h2⟩ _ => ⟨vs, h1, by rw [h2.length]; exact Nat.le_refl _⟩
  yields := fun W i x H' ⟨h1, h2⟩ ok hi y => by
    obtain ⟨d, e1, e2⟩ := h2.get (y.2 vs h1)
    exact ⟨W, d, y.1.symm, PStep.refl W, ok, e1, e2⟩
theorem chars_get {z : Str} {i : Nat} {c : Nat} (h : z.cps[i]? = some c) : (chars z)[i]? = some (.str ⟨#[c]⟩) := by
  unfold chars
  rw [List.getElem?_map, Array.getElem?_toList, h]; rfl
theorem chars_len (z : Str) : (chars z).length = z.cps.size := by simp [chars]
theorem walk_chars {z : Str} : WalkD G (Its z) (chars z) (fun _ => True) where
  goes := fun W i _ _ hi => by rw [chars_len] at hi; exact hi
  stops := fun W _ _ => by rw [chars_len]; exact Nat.le_refl _
  yields := fun W i x H' _ ok hi y => by
    obtain ⟨y1, c, y2, y3⟩ := y
    subst y3
    exact ⟨W, _, y1.symm, PStep.refl W, ok, chars_get y2, Dat.str _⟩
theorem rngL_get {a b : Int} {i : Nat} (h : i < (rngL a b).length) : (rngL a b)[i]? = some (.int (a + (i : Nat))) := by
  unfold rngL at h ⊢
  rw [List.length_map, List.length_range] at h
  rw [List.getElem?_map, List.getElem?_range h]; rfl
theorem rngL_len (a b : Int) : (rngL a b).length = (b - a).toNat := by simp [rngL]
theorem walk_rng {a b : Int} : WalkD G (Itr a (b - a).toNat) (rngL a b) (fun _ => True) where
  goes := fun W i _ _ hi => by rw [rngL_len] at hi; exact hi
  stops := fun W _ _ => by rw [rngL_len]; exact Nat.le_refl _
  yields := fun W i x H' _ ok hi y => by
    obtain ⟨y1, y2⟩ := y
    subst y2
    exact ⟨W, _, y1.symm, PStep.refl W, ok, rngL_get hi, Dat.int _⟩
theorem pi_or {iter : Expr} {w1 w2 : TI} (h1 : PI X tg iter w1) (h2 : PI X tg iter w2) : PI X tg iter (fun σ H R => w1 σ H R ∨ w2 σ H R) :=
  ⟨fun pins s σ H R I h => h.elim (h1.run pins s σ H R I) (h2.run pins s σ H R I)⟩
include hG in
theorem s_val {xs : List D} (h : PE X a (tD G q en ⟨d, false, en'⟩)) (hd : itemsD d = some xs) : PI X tg a (tSrc G q en xs none en') := by
  cases d with
  | lst ys =>
    cases hd
    refine pi_imp (pi_list h) fun σ H R _ ⟨W, e1, ok, rp, k⟩ => ?_
    subst e1
    refine ⟨W, rfl, ok, rp, fun v W1 st1 ok1 rp1 a1 qs1 l1 => ?_⟩
    cases a1 with
    | @lst p vs ds h1 h2 =>
      have h1' := (ok1.sub _ _ h1).1
      refine ⟨p, rfl, ⟨vs, .inl (.inl h1')⟩, fun _ => ?_⟩
      rw [← hG]
      refine k _ W1 _ st1 ok1 rp1 walk_lst (fun W2 st2 ok2 => ⟨vs, (ok2.sub _ _ (st2.U _ _ h1)).1, h2.mono st2.U st2.A⟩) ⟨vs, h1', h2⟩ (fun W2 ⟨us, z1, z2⟩ _ hl => ?_) qs1 l1
      rw [z2.length]; exact len_lim (hl p us (.inl (.inl (.inl z1))))
  | tup ys =>
    cases hd
    refine pi_imp (pi_tup h) fun σ H R _ ⟨W, e1, ok, rp, k⟩ => ?_
    subst e1
    refine ⟨W, rfl, ok, rp, fun v W1 st1 ok1 rp1 a1 qs1 l1 => ?_⟩
    cases a1 with
    | @tup p vs ds h1 h2 =>
      have h1' := ok1.subH.sqt h1
      refine ⟨p, rfl, ⟨vs, by rw [← hG]; exact h1'⟩, fun _ => ?_⟩
      rw [← hG]
      refine k _ W1 _ st1 ok1 rp1 (walk_tupD (vs := vs)) (fun W2 st2 ok2 => ⟨ok2.subH.sqt (st2.U.sqt h1), h2.mono st2.U st2.A⟩) ⟨h1', h2⟩ (fun W2 ⟨z1, z2⟩ _ hl => ?_) qs1 l1
      rw [z2.length]; exact len_lim (hl p vs (.inr z1))
  | str z =>
    have hd : (if z.cps.size ≤ lim then some (chars z) else none) = some xs := hd
    have hz : z.cps.size ≤ lim := by
      by_cases hz : z.cps.size ≤ lim
      · exact hz
      · rw [if_neg hz] at hd; cases hd
    rw [if_pos hz] at hd
    cases hd
    refine pi_imp (pi_str h) fun σ H R _ ⟨W, e1, ok, rp, k⟩ => ?_
    subst e1
    refine ⟨W, rfl, ok, rp, fun v W1 st1 ok1 rp1 a1 qs1 l1 => ?_⟩
    cases a1
    refine ⟨z, rfl, fun _ => ?_⟩
    exact k _ W1 _ st1 ok1 rp1 walk_chars (fun W2 st2 ok2 => trivial) trivial (fun W2 _ _ _ => by rw [chars_len]; exact hz) qs1 l1
  | _ => cases hd
include hG in
theorem s_loc {xs : List D} {i : Nat} (h : PE X a (tArg G q en (.pl (.loc i)) en')) (hd : (en'.at (.loc i)).dat = some (.lst xs)) (ho : (en'.at (.loc i)).own = true) : PI X tg a (tSrc G q en xs (some (.loc i, xs)) en') :=
  pi_imp (pi_list h) fun σ H R _ ⟨W, e1, ok, rp, k⟩ => by
    subst e1
    refine ⟨W, rfl, ok, rp, fun v W1 st1 ok1 rp1 a1 qs1 l1 => ?_⟩
    have a1 : σ[i]? = some (some v) := a1
    have key : ∀ W' σ' en', W'.Ok → Rep G W' σ' en' → (en'.at (.loc i)).dat = some (.lst xs) → σ'[i]? = σ[i]? → ∃ p vs, v = .ref p ∧ W'.H p = some (.lst vs) ∧ DatL G W'.A W'.U xs vs := fun W' σ' en' ok' rp' hd' hs' => by
      obtain ⟨own, h1, _⟩ := rp'.ex
      rcases h1 (.loc i) with y | ⟨u, y1, y2⟩
      · rw [y] at hd'; cases hd'
      · have y1 : σ'[i]? = some (some u) := y1
        rw [hs', a1] at y1
        have e : v = u := Option.some.inj (Option.some.inj y1)
        subst e
        generalize en'.at (.loc i) = s at hd' y2
        cases s with
        | no => cases hd'
        | sh d => cases hd'; cases (show Dat G W'.A W'.U (.lst xs) v from y2) with | lst z1 z2 => exact ⟨_, _, rfl, (ok'.sub _ _ z1).1, z2⟩
        | ow d => cases hd'; obtain ⟨vs, c1, c2⟩ := y2.2.2.2; exact ⟨_, vs, y2.1, c1, c2⟩
        | io d => cases hd'; obtain ⟨vs, c1, c2⟩ := y2.2.2; exact ⟨_, vs, y2.1, c1, c2⟩
    obtain ⟨p, vs, e1, e2, e3⟩ := key W1 σ en' ok1 rp1 hd rfl
    subst e1
    refine ⟨p, rfl, ⟨vs, .inl (.inl e2)⟩, fun _ => ?_⟩
    rw [← hG]
    refine k _ W1 _ st1 ok1 rp1 walk_lst ⟨i, rfl, fun W' σ' en' ok' rp' hd' hs' => ?_⟩ ⟨vs, e2, e3⟩ (fun W2 ⟨us, z1, z2⟩ _ hl => ?_) qs1 l1
    · obtain ⟨p', vs', y1, y2, y3⟩ := key W' σ' en' ok' rp' hd' hs'
      cases y1
      exact ⟨vs', y2, y3⟩
    · rw [z2.length]; exact len_lim (hl p us (.inl (.inl (.inl z1))))
theorem AvsOk.ints1 {j : Int} {f : Bool} {vs : List V} (h : AvsOk G W W1 σ [.val (.int j) f] vs) : vs = [.int j] := by
  obtain ⟨b, rfl, h1⟩ := pair1 h
  rw [Val.int h1]
theorem AvsOk.ints2 {i j : Int} {f g : Bool} {vs : List V} (h : AvsOk G W W1 σ [.val (.int i) f, .val (.int j) g] vs) : vs = [.int i, .int j] := by
  obtain ⟨b, b', rfl, h1, h2⟩ := pair2 h
  rw [Val.int h1, Val.int h2]
theorem s_rng1 {p pos : Pos} {j : Int} {f : Bool} (hg : Gl X "range") (hm : X.mg "range" = none) (ha : PA X [a] (tArgs G q en [.val (.int j) f] en')) (hst : isStar a = false) (hj : -(lim : Int) < j ∧ j < lim) : PI X tg (.Call (.Name "range" p) [a] [] pos) (tSrc G q en (rngL 0 j) none en') :=
  pi_imp (pi_range1 hg hm ha (star_cons hst)) fun σ H R _ ⟨W, e1, ok, rp, k⟩ => by
    subst e1
    refine ⟨W, rfl, ok, rp, fun vs W1 st1 ok1 rp1 a1 qs1 l1 => ?_⟩
    obtain rfl := a1.ints1
    have hb : (lim : Int) < 2 ^ 62 := by decide
    refine ⟨j, rfl, by omega, by omega, fun _ => ?_⟩
    have e : j.toNat = (j - 0).toNat := by rw [Int.sub_zero]
    rw [e]
    exact k _ W1 _ st1 ok1 rp1 walk_rng (fun W2 st2 ok2 => trivial) trivial (fun W2 _ _ _ => by rw [rngL_len]; omega) qs1 l1
theorem s_rng2 {p pos : Pos} {i j : Int} {f g : Bool} (hg : Gl X "range") (hm : X.mg "range" = none) (ha : PA X [a, b] (tArgs G q en [.val (.int i) f, .val (.int j) g] en')) (hst : isStar a = false) (hst2 : isStar b = false) (hj : -(lim : Int) < i ∧ i < lim ∧ -(lim : Int) < j ∧ j < lim) (hd : j - i ≤ lim) :
    PI X tg (.Call (.Name "range" p) [a, b] [] pos) (tSrc G q en (rngL i j) none en') :=
  pi_imp (pi_range2 hg hm ha (by rw [star_cons hst, star_cons hst2]; rfl) (star_cons hst2)) fun σ H R _ ⟨W, e1, ok, rp, k⟩ => by
    subst e1
    refine ⟨W, rfl, ok, rp, fun vs W1 st1 ok1 rp1 a1 qs1 l1 => ?_⟩
    obtain rfl := a1.ints2
    have hb : (lim : Int) < 2 ^ 62 := by decide
    refine ⟨i, j, rfl, by omega, fun _ => ?_⟩
    exact k _ W1 _ st1 ok1 rp1 walk_rng (fun W2 st2 ok2 => trivial) trivial (fun W2 _ _ _ => by rw [rngL_len]; omega) qs1 l1
end
end Py
/-! Targets, comprehensions. -/
namespace Py
open PySem PySem.Spec PyProof.Rows L2
open Classical
theorem pe_ex {X : Cx} {e : Expr} {ι : Type} {t : ι → TE} (h : ∀ i, PE X e (t i)) : PE X e (fun σ H Q => ∃ i, t i σ H Q) := ⟨fun pins s σ H Q I ⟨i, w⟩ => (h i).run pins s σ H Q I w⟩
theorem pe_and_p {X : Cx} {e : Expr} {p : Prop} {t : TE} (h : p → PE X e t) : PE X e (fun σ H Q => p ∧ t σ H Q) := ⟨fun pins s σ H Q I w => (h w.1).run pins s σ H Q I w.2⟩
theorem pt_ex {X : Cx} {e : Expr} {ι : Type} {t : ι → TT} (h : ∀ i, PT X e (t i)) : PT X e (fun σ H Q => ∃ i, t i σ H Q) := ⟨fun pins s σ H Q I ⟨i, w⟩ => (h i).run pins s σ H Q I w⟩
theorem pt_and_p {X : Cx} {e : Expr} {p : Prop} {t : TT} (h : p → PT X e t) : PT X e (fun σ H Q => p ∧ t σ H Q) := ⟨fun pins s σ H Q I w => (h w.1).run pins s σ H Q I w.2⟩
def gNames : List Nat → TGs
  | [] => gNil
  | i :: is => gCons (gName i) (gNames is)
def gT (K : PySem.W.Frag) : Tg → TG
  | .nm i => gName i
  | .tp is => fun v σ H Q => gTup K is.length (gNames is) v σ H Q ∨ gUnl K is.length (gNames is) v σ H Q
theorem pg_or {X : Cx} {tg : Expr} {g1 g2 : TG} (h1 : PG X tg g1) (h2 : PG X tg g2) : PG X tg (fun v σ H Q => g1 v σ H Q ∨ g2 v σ H Q) := ⟨fun pins s σ H v u Q I r h => h.elim (h1.run pins s σ H v u Q I r) (h2.run pins s σ H v u Q I r)⟩
def Tg.slots : Tg → List Nat
  | .nm i => [i]
  | .tp is => is
section
variable {G : Gb} {W W0 W1 W2 W' : Wd} {σ : L2.St} {en en' en1 en2 en3 : Stt} {d e r : D} {v u : V} {q q1 q2 : Bool} {X : Cx} (hG : G.K = X.K) {fr : Bool} {a b : Expr} {tg : Expr}
theorem canPut_lt {i : Nat} (h : canPut en i = true) : i < en.loc.length := by
  unfold canPut at h
  cases e : en.loc[i]? with
  | none => rw [e] at h; cases h
  | some s => exact lt_of_get e
theorem putO_some {i : Nat} (h : putO en i fr d = some en') : canPut en i = true ∧ en' = Py.put en i fr d := by
  unfold putO at h
  split at h
  · cases h; exact ⟨by assumption, rfl⟩
  · cases h
/-- what a target leaves as it is -/
def OnlyAt (is : List Nat) (σ σ' : L2.St) : Prop := σ'.length = σ.length ∧ ∀ j, j ∉ is → σ'[j]? = σ[j]?
theorem OnlyAt.refl (is : List Nat) (σ : L2.St) : OnlyAt is σ σ := ⟨rfl, fun _ _ => rfl⟩
theorem OnlyAt.set {is : List Nat} {i : Nat} (hi : i ∈ is) {x : Option V} : OnlyAt is σ (σ.set i x) := ⟨List.length_set, fun j hj => by
  have : i ≠ j := fun e => hj (e ▸ hi)
  rw [List.getElem?_set_ne this]⟩
theorem OnlyAt.trans {is : List Nat} {σ1 σ2 : L2.St} (a : OnlyAt is σ σ1) (b : OnlyAt is σ1 σ2) : OnlyAt is σ σ2 := ⟨b.1.trans a.1, fun j hj => (b.2 j hj).trans (a.2 j hj)⟩
theorem putL_ok : ∀ {is : List Nat} {ds : List D} {vs : List V} {σ : L2.St} {en en' : Stt} {H : Hp} {Q : L2.St → Hp → Prop}, W.H = H → Rep G W σ en → DatL G W.A W.U ds vs → putL en is ds = some en' →
    (∀ σ', Rep G W σ' en' → OnlyAt is σ σ' → Q σ' H) → gNames is vs σ H Q
  | [], [], vs, σ, en, en', H, Q, hH, rp, dl, h, k => by
    cases dl
    cases h
    exact ⟨rfl, k σ rp (OnlyAt.refl _ _)⟩
  | i :: is, d :: ds, vs, σ, en, en', H, Q, hH, rp, dl, h, k => by
    cases dl with
    | @cons _ v _ vs' h1 h2 =>
      unfold putL at h
      cases hp : putO en i false d with
      | none => rw [hp] at h; cases h
      | some en1 =>
        rw [hp] at h
        obtain ⟨c1, c2⟩ := putO_some hp
        subst c2
        refine ⟨v, vs', rfl, ?_⟩
        exact putL_ok (is := is) (ds := ds) hH (rp.setSh (canPut_lt c1) h1) h2 h fun σ' rp' oa => k σ' rp' (OnlyAt.trans (OnlyAt.set List.mem_cons_self) ⟨oa.1, fun j hj => oa.2 j fun z => hj (List.mem_cons_of_mem _ z)⟩)
  | [], _ :: _, _, _, _, _, _, _, _, _, _, h, _ => by simp [putL] at h
  | _ :: _, [], _, _, _, _, _, _, _, _, _, h, _ => by simp [putL] at h
theorem putL_len : ∀ {is : List Nat} {ds : List D} {en en' : Stt}, putL en is ds = some en' → is.length = ds.length
  | [], [], _, _, _ => rfl
  | i :: is, d :: ds, en, en', h => by
    unfold putL at h
    cases hp : putO en i false d with
    | none => rw [hp] at h; cases h
    | some en1 => rw [hp] at h; exact congrArg (· + 1) (putL_len h)
  | [], _ :: _, _, _, h => by simp [putL] at h
  | _ :: _, [], _, _, h => by simp [putL] at h
theorem asg_ok {t : Tg} {Q : L2.St → Hp → Prop} (ok : W.Ok) (rp : Rep G W σ en) (dt : Dat G W.A W.U d v) (h : asgTg en d t = some en') (k : ∀ σ', Rep G W σ' en' → OnlyAt t.slots σ σ' → Q σ' W.H) : gT G.K t v σ W.H Q := by
  cases t with
  | nm i =>
    obtain ⟨c1, c2⟩ := putO_some h
    subst c2
    exact k _ (rp.setSh (canPut_lt c1) dt) (OnlyAt.set (by simp [Tg.slots]))
  | tp is =>
    cases d with
    | tup ds =>
      cases dt with
      | @tup p vs _ h1 h2 =>
        have h : putL en is ds = some en' := h
        refine .inl ⟨p, vs, rfl, ok.subH.sqt h1, by rw [← h2.length]; exact (putL_len h).symm, ?_⟩
        exact putL_ok rfl rp h2 h k
    | lst ds =>
      cases dt with
      | @lst p vs _ h1 h2 =>
        have h : putL en is ds = some en' := h
        refine .inr ⟨p, vs, rfl, .inl (.inl (ok.sub _ _ h1).1), by rw [← h2.length]; exact (putL_len h).symm, ?_⟩
        exact putL_ok rfl rp h2 h k
    | _ => cases h
/-- what is no one's may be written -/
theorem Rep.updH {p : Addr} {vs us : List V} (rp : Rep G W σ en) (hO : ¬ W.O p) (h : W.H p = some (.lst vs)) : Rep G { W with H := upd W.H p (.lst us) } σ en where
  len := rp.len
  obs := rp.obs
  nod := rp.nod
  nof := rp.nof
  ob := fun n ob e => by
    obtain ⟨a, dx, fs, h1, h2, h3, h4, h5, h6⟩ := (rp.ob n ob e).ex
    have n1 : a ≠ p := fun e => hO (e ▸ h3)
    have n2 : dx ≠ p := fun e => hO (e ▸ h4)
    exact ⟨a, dx, fs, h1, by show upd W.H p _ a = _; rw [upd_ne n1]; exact h2, h3, h4, by show upd W.H p _ dx = _; rw [upd_ne n2]; exact h5, h6⟩
  ex := by
    obtain ⟨own, h1, h2⟩ := rp.ex
    have cc : ∀ d q, W.O q → Cont G W d q → Cont G { W with H := upd W.H p (.lst us) } d q := fun d q hq c => by
      have n1 : q ≠ p := fun e => hO (e ▸ hq)
      cases d with
      | lst ds => obtain ⟨vs, c1, c2⟩ := c; exact ⟨vs, by show upd W.H p _ q = _; rw [upd_ne n1]; exact c1, c2⟩
      | dic kds => obtain ⟨kvs, ds, c1, c2⟩ := c; exact ⟨kvs, ds, by show upd W.H p _ q = _; rw [upd_ne n1]; exact c1, c2⟩
      | _ => exact c.elim
    refine ⟨own, fun x => ?_, h2⟩
    rcases h1 x with e | ⟨v, e1, e2⟩
    · exact .inl e
    · refine .inr ⟨v, ?_, ?_⟩
      · cases x with
        | loc i => exact e1
        | fld n f =>
          obtain ⟨a, C, dx, fs, x, z1, z2, z3, z4⟩ := e1
          refine ⟨a, C, dx, fs, x, z1, ?_, z3, z4⟩
          have n1 : a ≠ p := fun e => by subst e; rw [h] at z2; cases z2
          show upd W.H p _ a = _
          rw [upd_ne n1]; exact z2
      · generalize en.at x = s at e2
        cases s with
        | no => trivial
        | sh d => exact e2
        | ow d => exact ⟨e2.1, e2.2.1, e2.2.2.1, cc _ _ e2.2.1 e2.2.2.2⟩
        | io d => exact ⟨e2.1, e2.2.1, cc _ _ e2.2.1 e2.2.2⟩
/-! ### a comprehension's own names -/
theorem wipeE_get : ∀ {own : List Nat} {l : List Slot} {i : Nat} {s : Slot}, (wipeE l own)[i]? = some s → (i ∈ own ∧ s = .no) ∨ (i ∉ own ∧ l[i]? = some s)
  | [], l, i, s, h => .inr ⟨by simp, h⟩
  | v :: vs, l, i, s, h => by
    unfold wipeE at h
    by_cases hi : v = i
    · subst hi
      by_cases hl : v < (wipeE l vs).length
      · rw [List.getElem?_set_self hl] at h; cases h; exact .inl ⟨by simp, rfl⟩
      · rw [List.getElem?_eq_none (by simpa using hl)] at h; cases h
    · rw [List.getElem?_set_ne hi] at h
      rcases wipeE_get h with ⟨a, b⟩ | ⟨a, b⟩
      · exact .inl ⟨List.mem_cons_of_mem _ a, b⟩
      · exact .inr ⟨fun z => by rcases List.mem_cons.mp z with z | z; exact hi z.symm; exact a z, b⟩
theorem wipeE_len : ∀ {own : List Nat} {l : List Slot}, (wipeE l own).length = l.length
  | [], _ => rfl
  | v :: vs, l => by unfold wipeE; rw [List.length_set, wipeE_len]
theorem wipe_get {own : List Nat} {i : Nat} (h : i ∉ own) : (wipe σ own)[i]? = σ[i]? := by
  induction own with
  | nil => rfl
  | cons v vs ih =>
    show ((wipe σ vs).set v none)[i]? = _
    have : v ≠ i := fun e => h (by simp [e])
    rw [List.getElem?_set_ne this, ih fun z => h (List.mem_cons_of_mem _ z)]
theorem wipe_eq {own : List Nat} {σ1 σ2 : L2.St} (hl : σ2.length = σ1.length) (h : ∀ j, j ∉ own → σ2[j]? = σ1[j]?) : wipe σ2 own = wipe σ1 own := by
  refine List.ext_getElem? fun j => ?_
  by_cases hj : j ∈ own
  · have key : ∀ (σ : L2.St) (vs : List Nat), j ∈ vs → j < σ.length → (wipe σ vs)[j]? = some none := fun σ vs => by
      induction vs with
      | nil => intro z; cases z
      | cons v vs ih =>
        intro z hlt
        show ((wipe σ vs).set v none)[j]? = _
        by_cases e : v = j
        · subst e; rw [List.getElem?_set_self (by rw [wipe_length]; exact hlt)]
        · rw [List.getElem?_set_ne e]
          rcases List.mem_cons.mp z with z | z
          · exact absurd z.symm e
          · exact ih z hlt
    by_cases hlt : j < σ1.length
    · rw [key σ1 own hj hlt, key σ2 own hj (by rw [hl]; exact hlt)]
    · rw [List.getElem?_eq_none (by rw [wipe_length, hl]; omega), List.getElem?_eq_none (by rw [wipe_length]; omega)]
  · rw [wipe_get hj, wipe_get hj, h j hj]
theorem Rep.wipe {own : List Nat} (rp : Rep G W σ en) : Rep G W (L2.wipe σ own) { en with loc := wipeE en.loc own } where
  len := by rw [wipe_length]; show (wipeE en.loc own).length = _; rw [wipeE_len]; exact rp.len
  obs := rp.obs
  nod := rp.nod
  ob := rp.ob
  nof := rp.nof
  ex := by
    obtain ⟨ow, h1, h2⟩ := rp.ex
    have at1 : ∀ i, Stt.at { en with loc := wipeE en.loc own } (.loc i) = .no ∨ (i ∉ own ∧ Stt.at { en with loc := wipeE en.loc own } (.loc i) = en.at (.loc i)) := fun i => by
      show (wipeE en.loc own).getD i .no = _ ∨ _ ∧ (wipeE en.loc own).getD i .no = en.loc.getD i .no
      cases e : (wipeE en.loc own)[i]? with
      | none => exact .inl (by rw [List.getD, e]; rfl)
      | some s =>
        rw [getD_of e]
        rcases wipeE_get e with ⟨a, b⟩ | ⟨a, b⟩
        · exact .inl b
        · exact .inr ⟨a, (getD_of b).symm⟩
    have own1 : ∀ x, (Stt.at { en with loc := wipeE en.loc own } x).own = true → (en.at x).own = true := fun x hx => by
      cases x with
      | loc i =>
        rcases at1 i with z | ⟨_, z⟩
        · rw [z] at hx; cases hx
        · rw [z] at hx; exact hx
      | fld n f => exact hx
    refine ⟨ow, fun x => ?_, fun x y hx hy e => h2 x y (own1 x hx) (own1 y hy) e⟩
    cases x with
    | loc i =>
      rcases at1 i with z | ⟨hi, z⟩
      · exact .inl z
      · rw [z]
        rcases h1 (.loc i) with y | ⟨v, y1, y2⟩
        · exact .inl y
        · exact .inr ⟨v, by show (L2.wipe σ own)[i]? = _; rw [wipe_get hi]; exact y1, y2⟩
    | fld n f => exact h1 (.fld n f)
theorem backE_get : ∀ {own : List Nat} {l0 l : List Slot} {i : Nat} {s : Slot}, (backE l0 l own)[i]? = some s → (i ∈ own ∧ (s = .no ∨ ∃ d, s = .sh d ∧ l0[i]? = some (.sh d))) ∨ (i ∉ own ∧ l[i]? = some s)
  | [], l0, l, i, s, h => .inr ⟨by simp, h⟩
  | v :: vs, l0, l, i, s, h => by
    unfold backE at h
    by_cases hi : v = i
    · subst hi
      by_cases hl : v < (backE l0 l vs).length
      · rw [List.getElem?_set_self hl] at h
        refine .inl ⟨by simp, ?_⟩
        split at h
        · rename_i d hd; cases h; exact .inr ⟨d, rfl, hd⟩
        · cases h; exact .inl rfl
      · rw [List.getElem?_eq_none (by simpa using hl)] at h; cases h
    · rw [List.getElem?_set_ne hi] at h
      rcases backE_get h with ⟨a, b⟩ | ⟨a, b⟩
      · exact .inl ⟨List.mem_cons_of_mem _ a, b⟩
      · exact .inr ⟨fun z => by rcases List.mem_cons.mp z with z | z; exact hi z.symm; exact a z, b⟩
theorem backE_len : ∀ {own : List Nat} {l0 l : List Slot}, (backE l0 l own).length = l.length
  | [], _, _ => rfl
  | v :: vs, l0, l => by unfold backE; rw [List.length_set, backE_len]
/-- behind the comprehension: the own names as before -/
theorem Rep.back {own : List Nat} (st : Step W1 W) (rp1 : Rep G W1 σ en1) (rp : Rep G W (L2.wipe σ own) { en2 with loc := wipeE en2.loc own }) : Rep G W σ { en2 with loc := backE en1.loc en2.loc own } where
  len := by
    show (backE en1.loc en2.loc own).length = _
    rw [backE_len]
    have := rp.len
    rw [wipe_length] at this
    have e : (wipeE en2.loc own).length = en2.loc.length := wipeE_len
    exact e.symm.trans this
  obs := rp.obs
  nod := rp.nod
  ob := rp.ob
  nof := rp.nof
  ex := by
    obtain ⟨ow, h1, h2⟩ := rp.ex
    obtain ⟨ow1, k1, _⟩ := rp1.ex
    have at1 : ∀ i, (Stt.at { en2 with loc := backE en1.loc en2.loc own } (.loc i) = .no) ∨ (∃ d, Stt.at { en2 with loc := backE en1.loc en2.loc own } (.loc i) = .sh d ∧ en1.at (.loc i) = .sh d) ∨ (i ∉ own ∧ Stt.at { en2 with loc := backE en1.loc en2.loc own } (.loc i) = Stt.at { en2 with loc := wipeE en2.loc own } (.loc i)) := fun i => by
      show (backE en1.loc en2.loc own).getD i .no = _ ∨ (∃ d, (backE en1.loc en2.loc own).getD i .no = .sh d ∧ en1.loc.getD i .no = .sh d) ∨ _ ∧ (backE en1.loc en2.loc own).getD i .no = (wipeE en2.loc own).getD i .no
      cases e : (backE en1.loc en2.loc own)[i]? with
      | none => exact .inl (by rw [List.getD, e]; rfl)
      | some s =>
        rw [getD_of e]
        rcases backE_get e with ⟨a, b | ⟨d, b1, b2⟩⟩ | ⟨a, b⟩
        · exact .inl b
        · exact .inr (.inl ⟨d, b1, getD_of b2⟩)
        · refine .inr (.inr ⟨a, ?_⟩)
          have hw : (wipeE en2.loc own)[i]? = some s := by
            cases e2 : (wipeE en2.loc own)[i]? with
            | none =>
              have := List.getElem?_eq_none_iff.mp e2
              rw [wipeE_len] at this
              rw [List.getElem?_eq_none this] at b; cases b
            | some s' =>
              rcases wipeE_get e2 with ⟨z, _⟩ | ⟨_, z⟩
              · exact absurd z a
              · rw [b] at z; exact z.symm
          exact (getD_of hw).symm
    have own1 : ∀ x, (Stt.at { en2 with loc := backE en1.loc en2.loc own } x).own = true → (Stt.at { en2 with loc := wipeE en2.loc own } x).own = true := fun x hx => by
      cases x with
      | loc i =>
        rcases at1 i with z | ⟨d, z, _⟩ | ⟨_, z⟩
        · rw [z] at hx; cases hx
        · rw [z] at hx; cases hx
        · rw [z] at hx; exact hx
      | fld n f => exact hx
    refine ⟨ow, fun x => ?_, fun x y hx hy e => h2 x y (own1 x hx) (own1 y hy) e⟩
    cases x with
    | loc i =>
      rcases at1 i with z | ⟨d, z, z'⟩ | ⟨hi, z⟩
      · exact .inl z
      · rw [z]
        rcases k1 (.loc i) with y | ⟨v, y1, y2⟩
        · rw [z'] at y; cases y
        · rw [z'] at y2
          exact .inr ⟨v, y1, Dat.mono st.U st.A y2⟩
      · rw [z]
        rcases h1 (.loc i) with y | ⟨v, y1, y2⟩
        · exact .inl y
        · have y1 : (L2.wipe σ own)[i]? = some (some v) := y1
          rw [wipe_get hi] at y1
          exact .inr ⟨v, y1, y2⟩
    | fld n f => exact h1 (.fld n f)
end
end Py
/-! Comprehensions over data. -/
namespace Py
open PySem PySem.Spec PyProof.Rows L2
open Classical
section
variable {G : Gb} {W W0 W1 W2 W' : Wd} {σ : L2.St} {en en' en1 en2 en3 : Stt} {d e r : D} {v u : V} {q q1 q2 : Bool} {X : Cx} (hG : G.K = X.K) {fr : Bool} {a b : Expr} {tg : Expr}
/-- an element, whatever the state -/
def tAnyE (G : Gb) (f : Stt → Option R) : TE := fun σ H Q => ∃ en r, f en = some r ∧ tD G false en r σ H Q
def tAnyT (G : Gb) (t : Stt → Option (Bool × Stt)) : TT := fun σ H Q => ∃ en b en', t en = some (b, en') ∧ tDT G false en b en' σ H Q
theorem Step.of_p (p : PStep W W') : Step W W' := p.S
theorem chk_stands {c : Option (Pl × List D)} {own : List Nat} {Sd : Wd → Prop} (hs : Stands G σ W1 Sd c) (st : Step W1 W) (ok : W.Ok) (rp : Rep G W (wipe σ own) en) (hc : chkOk c en = true) (hown : ∀ x ds i, c = some (x, ds) → x = .loc i → i ∉ own) : Sd W := by
  cases c with
  | none => exact hs W st ok
  | some p =>
    obtain ⟨x, ds⟩ := p
    obtain ⟨i, rfl, h⟩ := hs
    unfold chkOk at hc
    simp only at hc
    split at hc
    · rename_i hh
      exact h W (wipe σ own) en ok rp hh (wipe_get (hown _ ds i rfl rfl))
    · cases hc
theorem chk_wipe {c : Option (Pl × List D)} {own : List Nat} (hown : ∀ x ds i, c = some (x, ds) → x = .loc i → i ∉ own) (hl : ∀ x ds, c = some (x, ds) → ∃ i, x = .loc i) (hc : chkOk c en = true) : chkOk c { en with loc := wipeE en.loc own } = true := by
  cases c with
  | none => rfl
  | some p =>
    obtain ⟨x, ds⟩ := p
    obtain ⟨i, rfl⟩ := hl x ds rfl
    have hi := hown _ ds i rfl rfl
    have e : Stt.at { en with loc := wipeE en.loc own } (.loc i) = en.at (.loc i) := by
      show (wipeE en.loc own).getD i .no = en.loc.getD i .no
      cases e : (wipeE en.loc own)[i]? with
      | none =>
        have := List.getElem?_eq_none_iff.mp e
        rw [wipeE_len] at this
        rw [List.getD, List.getD, e, List.getElem?_eq_none this]
      | some s =>
        rcases wipeE_get e with ⟨z, _⟩ | ⟨_, z⟩
        · exact absurd z hi
        · rw [getD_of e, getD_of z]
    unfold chkOk at hc ⊢
    simp only at hc ⊢
    rw [e]; exact hc
include hG in
theorem lc_imp {t : Tg} {f : Stt → Option R} {tt : Stt → Option (Bool × Stt)} {xs ys : List D} {c : Option (Pl × List D)} {own : List (Str × Nat)} {σ : L2.St} {H : Hp} {Q : VK}
    (hsl : ∀ j ∈ t.slots, j ∈ own.map (·.2)) (hown : ∀ x ds i, c = some (x, ds) → x = .loc i → i ∉ own.map (·.2))
    (hev : lcLp (fun x en => asgTg { en with loc := wipeE en.loc (own.map (·.2)) } x t) tt f c xs { en1 with loc := wipeE en1.loc (own.map (·.2)) } = some (ys, en2))
    (hk : tD G false en ⟨.lst ys, true, { en2 with loc := backE en1.loc en2.loc (own.map (·.2)) }⟩ σ H Q) :
    tLc (tSrc G q en xs c en1) (gT X.K t) (tAnyT G tt) (tAnyE G f) (own.map (·.2)) σ H (fun v H1 => LenOk X.K H1 → Q v H1) := by
  obtain ⟨W, e1, okW, rp, k⟩ := hk
  subst e1
  refine ⟨W, rfl, okW, rp, fun J W1 Sd st1 ok1 rp1 wk sd sd1 lenx qs1 l1 => ?_⟩
  intro D hD
  generalize hOwn : own.map (·.2) = ow at *
  -- the list that is made
  have hDU : W1.U D = none := by
    cases z : W1.U D with
    | none => rfl
    | some o => have := (ok1.sub D o z).1; rw [hD] at this; cases this
  have hDO : ¬ W1.O D := fun z => by
    obtain ⟨o, y⟩ := ok1.own D z
    rw [hD] at y; cases y
  have locc : ∀ x ds, c = some (x, ds) → ∃ i, x = .loc i := fun x ds e => by
    subst e; obtain ⟨i, h, _⟩ := sd; exact ⟨i, h⟩
  refine ⟨fun i m H => i ≤ xs.length ∧ m = xs.length - i ∧ ∃ (W2 : Wd) (en' : Stt) (done rest : List Py.D) (acc : List V), W2.H = H ∧ W2.Ok ∧ Step W1 W2 ∧ Rep G W2 (wipe σ ow) { en' with loc := wipeE en'.loc ow } ∧
      W2.H D = some (.lst acc) ∧ W2.U D = none ∧ ¬ W2.O D ∧ DatL G W2.A W2.U done acc ∧ acc.length ≤ i ∧ done ++ rest = ys ∧ LenOk X.K W2.H ∧
      lcLp (fun x en => asgTg { en with loc := wipeE en.loc ow } x t) tt f c (xs.drop i) en' = some (rest, en2), ?_, ?_⟩
  · -- the start
    have ps := push_step (o := .lst []) hD
    have ok2 := push_ok (o := .lst []) ok1 hD
    refine ⟨xs.length, Nat.zero_le _, rfl, { W1 with H := upd W1.H D (.lst []) }, _, [], ys, [], rfl, ok2, ps.S, ?_, upd_same, hDU, hDO, .nil, Nat.le_refl _, rfl, ?_, hev⟩
    · have := (rp1.pstep ps).wipe (own := ow)
      have e : wipeE (wipeE en1.loc ow) ow = wipeE en1.loc ow := by
        refine List.ext_getElem? fun j => ?_
        cases z : (wipeE (wipeE en1.loc ow) ow)[j]? with
        | none =>
          have := List.getElem?_eq_none_iff.mp z
          rw [wipeE_len] at this
          exact (List.getElem?_eq_none this).symm
        | some s =>
          rcases wipeE_get z with ⟨z1, z2⟩ | ⟨z1, z2⟩
          · subst z2
            cases z3 : (wipeE en1.loc ow)[j]? with
            | none =>
              have h1 := List.getElem?_eq_none_iff.mp z3
              have h2 := lt_of_get z
              rw [wipeE_len] at h2; omega
            | some s =>
              rcases wipeE_get z3 with ⟨_, y⟩ | ⟨y, _⟩
              · rw [y]
              · exact absurd z1 y
          · exact z2.symm
      show Rep G _ _ { loc := wipeE (wipeE en1.loc ow) ow, obs := en1.obs }
      rw [e]; exact this
    · intro a us h
      rcases h with h | h
      · rcases h with (h | ⟨o, h⟩) | h
        · have h : upd W1.H D (.lst []) a = some (.lst us) := h
          by_cases ha : a = D
          · subst ha; rw [upd_same] at h; cases h; exact Nat.zero_le _
          · rw [upd_ne ha] at h; exact l1 a us (.inl (by rw [hG]; exact .inl (.inl h)))
        · have h : upd W1.H D (.lst []) a = some (.frz o (.lst us)) := h
          by_cases ha : a = D
          · subst ha; rw [upd_same] at h; cases h
          · rw [upd_ne ha] at h; exact l1 a us (.inl (by rw [hG]; exact .inl (.inr ⟨o, h⟩)))
        · exact l1 a us (.inl (by rw [hG]; exact .inr h))
      · rcases h with (h | ⟨o, h⟩) | h
        · have h : upd W1.H D (.lst []) a = some (.tup us) := h
          by_cases ha : a = D
          · subst ha; rw [upd_same] at h; cases h
          · rw [upd_ne ha] at h; exact l1 a us (.inr (by rw [hG]; exact .inl (.inl h)))
        · have h : upd W1.H D (.lst []) a = some (.frz o (.tup us)) := h
          by_cases ha : a = D
          · subst ha; rw [upd_same] at h; cases h
          · rw [upd_ne ha] at h; exact l1 a us (.inr (by rw [hG]; exact .inl (.inr ⟨o, h⟩)))
        · exact l1 a us (.inr (by rw [hG]; exact .inr h))
  · rintro i m H ⟨hi, rfl, W2, en', done, rest, acc, rfl, ok2, st2, rp2, hacc, hU2, hO2, dl, hal, hys, hlen, hlp⟩
    have chk : chkOk c en' = true := by
      cases hx : xs.drop i with
      | nil => rw [hx] at hlp; unfold lcLp at hlp; split at hlp <;> first | assumption | cases hlp
      | cons x r => rw [hx] at hlp; unfold lcLp at hlp; split at hlp <;> first | assumption | cases hlp
    have hSd : Sd W2 := chk_stands sd st2 ok2 rp2 (chk_wipe hown locc chk) hown
    by_cases hlt : i < xs.length
    · -- a turn
      refine .inr ⟨wk.goes W2 i hSd ok2 hlt, fun H' => i + 1 ≤ xs.length ∧ ∃ (W2 : Wd) (en' : Stt) (done rest : List Py.D) (acc : List V), W2.H = H' ∧ W2.Ok ∧ Step W1 W2 ∧ Rep G W2 (wipe σ ow) { en' with loc := wipeE en'.loc ow } ∧
        W2.H D = some (.lst acc) ∧ W2.U D = none ∧ ¬ W2.O D ∧ DatL G W2.A W2.U done acc ∧ acc.length ≤ i + 1 ∧ done ++ rest = ys ∧ LenOk X.K W2.H ∧
        lcLp (fun x en => asgTg { en with loc := wipeE en.loc ow } x t) tt f c (xs.drop (i + 1)) en' = some (rest, en2), fun H' hN' => ?_, fun x H' hy => ?_⟩
      · obtain ⟨z1, z2⟩ := hN'
        exact ⟨xs.length - (i + 1), by omega, z1, rfl, z2⟩
      · obtain ⟨W3, dx, rfl, ps3, ok3, hdx, dtx⟩ := wk.yields W2 i x H' hSd ok2 hlt hy
        have hdrop : xs.drop i = dx :: xs.drop (i + 1) := by
          rw [List.drop_eq_getElem_cons hlt]
          rw [List.getElem?_eq_getElem hlt] at hdx
          cases hdx; rfl
        rw [hdrop] at hlp
        unfold lcLp at hlp
        rw [if_pos chk] at hlp
        cases hasg : asgTg { en' with loc := wipeE en'.loc ow } dx t with
        | none => rw [hasg] at hlp; cases hlp
        | some ena =>
          rw [hasg] at hlp
          simp only at hlp
          rw [← hG]
          have D3 : W3.U D = none ∧ ¬ W3.O D := ps3.S.loose hU2 hO2 ⟨_, hacc⟩
          have hacc3 : W3.H D = some (.lst acc) := ps3.H _ _ hacc
          have st3 := st2.trans ok2 ps3.S
          refine asg_ok ok3 (rp2.pstep ps3) dtx hasg fun σ2 rpa oa => ?_
          have hwipe : wipe σ2 ow = wipe σ ow := by
            have := wipe_eq (own := ow) oa.1 (fun j hj => oa.2 j fun z => hj (hsl j z))
            rw [this]
            refine wipe_eq (wipe_length _ _) fun j hj => wipe_get hj
          refine ⟨hwipe, ?_⟩
          cases htt : tt ena with
          | none => rw [htt] at hlp; cases hlp
          | some p =>
            obtain ⟨bb, enb⟩ := p
            rw [htt] at hlp
            refine ⟨ena, bb, enb, htt, W3, rfl, ok3, rpa, fun W4 st4 ok4 rp4 _ l4 => ?_⟩
            have D4 := st4.loose D3.1 D3.2 ⟨_, hacc3⟩
            have hacc4 : W4.H D = some (.lst acc) := st4.H _ _ hacc3 D3.2
            have dl4 : DatL G W4.A W4.U done acc := (dl.mono ps3.S.U ps3.S.A).mono st4.U st4.A
            have st14 := st3.trans ok3 st4
            cases bb with
            | false =>
              refine iteF ?_
              have rpw := rp4.wipe (own := ow)
              rw [hwipe] at rpw
              exact ⟨by omega, W4, enb, done, rest, acc, rfl, ok4, st14, rpw, hacc4, D4.1, D4.2, dl4, by omega, hys, l4, hlp⟩
            | true =>
              refine iteT ?_
              simp only at hlp
              cases hf : f enb with
              | none => rw [hf] at hlp; cases hlp
              | some r =>
                rw [hf] at hlp
                simp only at hlp
                cases hrec : lcLp (fun x en => asgTg { en with loc := wipeE en.loc ow } x t) tt f c (xs.drop (i + 1)) r.en with
                | none => rw [hrec] at hlp; cases hlp
                | some p =>
                  obtain ⟨ys', en3⟩ := p
                  rw [hrec] at hlp
                  simp only [Option.some.injEq, Prod.mk.injEq] at hlp
                  obtain ⟨hy1, hy2⟩ := hlp
                  subst hy1 hy2
                  refine ⟨enb, r, hf, W4, rfl, ok4, rp4, fun y W5 st5 ok5 rp5 vl5 _ l5 => ?_⟩
                  have D5 := st5.loose D4.1 D4.2 ⟨_, hacc4⟩
                  have hacc5 : W5.H D = some (.lst acc) := st5.H _ _ hacc4 D4.2
                  obtain ⟨W6, hh, hA, hO, sU, ok6, st6, rp6, dt6⟩ := Val.shared ok5 st5 vl5 rp5
                  have D6 := st6.loose D4.1 D4.2 ⟨_, hacc4⟩
                  have hacc6 : W6.H D = some (.lst acc) := st6.H _ _ hacc4 D4.2
                  have dl6 : DatL G W6.A W6.U done acc := dl4.mono st6.U st6.A
                  have hlen1 : xs.length ≤ lim := lenx W2 hSd ok2 (by rw [hG]; exact hlen)
                  have hlt2 : acc.length < sizeLine := by rw [← lim_line]; omega
                  refine ⟨acc, hacc5, hlt2, by omega, { W6 with H := upd W6.H D (.lst (acc ++ [y])) }, r.en, done ++ [r.d], ys', acc ++ [y], by rw [← hh], ?_, ?_, ?_, upd_same, D6.1, D6.2, dl6.append (.cons dt6 .nil), by rw [List.length_append]; simp; omega, by rw [List.append_assoc]; exact hys, ?_, hrec⟩
                  · refine ⟨fun p o z => ?_, fun p z => ?_, fun p z => ?_⟩
                    · obtain ⟨z1, z2⟩ := ok6.sub p o z
                      refine ⟨?_, z2⟩
                      have : p ≠ D := fun e => by subst e; rw [D6.1] at z; cases z
                      show upd W6.H D _ p = _
                      rw [upd_ne this]; exact z1
                    · obtain ⟨o, z1⟩ := ok6.own p z
                      have : p ≠ D := fun e => by subst e; exact D6.2 z
                      exact ⟨o, by show upd W6.H D _ p = _; rw [upd_ne this]; exact z1⟩
                    · by_cases hp : p = D
                      · subst hp; exact ⟨_, upd_same⟩
                      · obtain ⟨o, z1⟩ := ok6.bas p z
                        exact ⟨o, by show upd W6.H D _ p = _; rw [upd_ne hp]; exact z1⟩
                  · have st16 := st14.trans ok4 st6
                    refine ⟨st16.B, st16.U, fun p o z1 z2 => ?_, fun p o z1 => ?_, st16.N, st16.A⟩
                    · have hp : p ≠ D := fun e => by subst e; rw [hD] at z1; cases z1
                      show upd W6.H D _ p = _
                      rw [upd_ne hp]; exact st16.H p o z1 z2
                    · by_cases hp : p = D
                      · subst hp; exact ⟨_, upd_same⟩
                      · obtain ⟨o', z2⟩ := st16.K p o z1
                        exact ⟨o', by show upd W6.H D _ p = _; rw [upd_ne hp]; exact z2⟩
                  · have rpw := rp6.wipe (own := ow)
                    rw [hwipe] at rpw
                    exact rpw.updH D6.2 hacc6
                  · intro a us h
                    have old := hlen
                    have l5' : LenOk G.K W6.H := by rw [hh]; exact l5
                    rcases h with h | h
                    · rcases h with (h | ⟨o, h⟩) | h
                      · have h : upd W6.H D (.lst (acc ++ [y])) a = some (.lst us) := h
                        by_cases ha : a = D
                        · subst ha; rw [upd_same] at h; cases h
                          rw [List.length_append, List.length_singleton]; omega
                        · rw [upd_ne ha] at h; exact l5' a us (.inl (.inl (.inl h)))
                      · have h : upd W6.H D (.lst (acc ++ [y])) a = some (.frz o (.lst us)) := h
                        by_cases ha : a = D
                        · subst ha; rw [upd_same] at h; cases h
                        · rw [upd_ne ha] at h; exact l5' a us (.inl (.inl (.inr ⟨o, h⟩)))
                      · exact l5' a us (.inl (.inr h))
                    · rcases h with (h | ⟨o, h⟩) | h
                      · have h : upd W6.H D (.lst (acc ++ [y])) a = some (.tup us) := h
                        by_cases ha : a = D
                        · subst ha; rw [upd_same] at h; cases h
                        · rw [upd_ne ha] at h; exact l5' a us (.inr (.inl (.inl h)))
                      · have h : upd W6.H D (.lst (acc ++ [y])) a = some (.frz o (.tup us)) := h
                        by_cases ha : a = D
                        · subst ha; rw [upd_same] at h; cases h
                        · rw [upd_ne ha] at h; exact l5' a us (.inr (.inl (.inr ⟨o, h⟩)))
                      · exact l5' a us (.inr (.inr h))
    · -- the end
      have e : i = xs.length := by omega
      subst e
      refine .inl ⟨wk.stops W2 hSd ok2, fun _ => ?_⟩
      rw [List.drop_length] at hlp
      unfold lcLp at hlp
      rw [if_pos chk] at hlp
      simp only [Option.some.injEq, Prod.mk.injEq] at hlp
      obtain ⟨h1, h2⟩ := hlp
      subst h1 h2
      rw [List.append_nil] at hys
      subst hys
      exact k (.ref D) W2 (st1.trans ok1 st2) ok2 (Rep.back st2 rp1 rp2) ⟨D, rfl, st1.free hD, hU2, hO2, acc, hacc, dl⟩ QS.f (by rw [hG]; exact hlen)
include hG in
theorem d_lc {elt iter : Expr} {ifs : List Expr} {scope : Scope} {own : List (Str × Nat)} {pos : Pos} {t : Tg} {f : Stt → Option R} {tt : Stt → Option (Bool × Stt)} {xs ys : List D} {c : Option (Pl × List D)}
    (hc : X.calm = true) (hN : X.N.Nodup) (hi : PI X tg iter (tSrc G q en xs c en1)) (ok : BlkOk X.N X.env.scope scope own)
    (hg : ∀ (s : Shared) (H : Hp) (C : Addr) (cl : List (Str × Addr)) (fp : List Addr), PG (X.blk s H scope (compEnvC scope cl C X.env) fp) tg (gT X.K t))
    (ht : ∀ (s : Shared) (H : Hp) (C : Addr) (cl : List (Str × Addr)) (fp : List Addr), PTs (X.blk s H scope (compEnvC scope cl C X.env) fp) ifs (tAnyT G tt))
    (he : ∀ (s : Shared) (H : Hp) (C : Addr) (cl : List (Str × Addr)) (fp : List Addr), PE (X.blk s H scope (compEnvC scope cl C X.env) fp) elt (tAnyE G f)) (hs : ∀ x, foldedSetIterable iter X.env x = pure x)
    (hsl : ∀ j ∈ t.slots, j ∈ own.map (·.2)) (hown : ∀ x ds i, c = some (x, ds) → x = .loc i → i ∉ own.map (·.2))
    (hev : lcLp (fun x en => asgTg { en with loc := wipeE en.loc (own.map (·.2)) } x t) tt f c xs { en1 with loc := wipeE en1.loc (own.map (·.2)) } = some (ys, en2)) :
    PE X (.ListComp elt [⟨tg, iter, ifs, 0⟩] scope pos) (tD G false en ⟨.lst ys, true, { en2 with loc := backE en1.loc en2.loc (own.map (·.2)) }⟩) :=
  pe_imp (pe_lc hc hN hi ok hg ht he hs) fun σ H Q _ w => lc_imp hG hsl hown hev w
theorem s_asgLc {i : Nat} {y : Str} {py : Pos} {elt iter : Expr} {ifs : List Expr} {scope : Scope} {own : List (Str × Nat)} {pos spos : Pos} {t : Tg} {f : Stt → Option R} {tt : Stt → Option (Bool × Stt)} {xs ys : List D} {c : Option (Pl × List D)}
    (hG : G.K = X.K) (hc : X.calm = true) (hN : X.N.Nodup) (hy : X.N[i]? = some y) (hyl : X.env.scope.names.lookup y = some .local) (hsw : swapsWith (.ListComp elt [⟨tg, iter, ifs, 0⟩] scope pos) (some (.Name y py)) spos.line X.env = pure true)
    (hi : PI X tg iter (tSrc G q en xs c en1)) (ok : BlkOk X.N X.env.scope scope own)
    (hg : ∀ (s : Shared) (H : Hp) (C : Addr) (cl : List (Str × Addr)) (fp : List Addr), PG (X.blk s H scope (compEnvC scope cl C X.env) fp) tg (gT X.K t))
    (ht : ∀ (s : Shared) (H : Hp) (C : Addr) (cl : List (Str × Addr)) (fp : List Addr), PTs (X.blk s H scope (compEnvC scope cl C X.env) fp) ifs (tAnyT G tt))
    (he : ∀ (s : Shared) (H : Hp) (C : Addr) (cl : List (Str × Addr)) (fp : List Addr), PE (X.blk s H scope (compEnvC scope cl C X.env) fp) elt (tAnyE G f)) (hs : ∀ x, foldedSetIterable iter X.env x = pure x)
    (hsl : ∀ j ∈ t.slots, j ∈ own.map (·.2)) (hown : ∀ x ds i, c = some (x, ds) → x = .loc i → i ∉ own.map (·.2))
    (hev : lcLp (fun x en => asgTg { en with loc := wipeE en.loc (own.map (·.2)) } x t) tt f c xs { en1 with loc := wipeE en1.loc (own.map (·.2)) } = some (ys, en2)) :
    PS X (.Assign [.Name y py] (.ListComp elt [⟨tg, iter, ifs, 0⟩] scope pos) spos) (tAsg (fun σ H Q => tD G false en ⟨.lst ys, true, { en2 with loc := backE en1.loc en2.loc (own.map (·.2)) }⟩ σ H Q) (gName i)) :=
  ps_imp (ps_setLc hc hN hy hyl hsw hi ok hg ht he hs) fun D σ H _ w => lc_imp hG hsl hown hev w
end
end Py
/-! Statements over data. -/
namespace Py
open PySem PySem.Spec PyProof.Rows L2
open Classical
section
variable {G : Gb} {W W0 W1 W2 W' : Wd} {σ : L2.St} {en en' en1 en2 en3 : Stt} {d e r : D} {v u : V} {q q1 q2 : Bool} {X : Cx} (hG : G.K = X.K) {fr : Bool} {a b : Expr} {tg : Expr} {ws ws1 ws2 : List Nat} {fl fl' : Fl}
theorem ps_ex {X : Cx} {e : Stmt} {ι : Type} {t : ι → TS} (h : ∀ i, PS X e (t i)) : PS X e (fun D σ H => ∃ i, t i D σ H) := ⟨fun pins s σ H D I ⟨i, w⟩ => (h i).run pins s σ H D I w⟩
theorem pss_ex {X : Cx} {e : List Stmt} {ι : Type} {t : ι → TS} (h : ∀ i, PSs X e (t i)) : PSs X e (fun D σ H => ∃ i, t i D σ H) := ⟨fun pins s σ H D I ⟨i, w⟩ => (h i).run pins s σ H D I w⟩
theorem pss_and_p {X : Cx} {e : List Stmt} {p : Prop} {t : TS} (h : p → PSs X e t) : PSs X e (fun D σ H => p ∧ t D σ H) := ⟨fun pins s σ H D I w => (h w.1).run pins s σ H D I w.2⟩
/-- what a def gives back -/
def RetV (G : Gb) (W' : Wd) (fr : Bool) (d : D) (v : V) : Prop := match fr with
  | false => Dat G W'.A W'.U d v
  | true => ∃ p, v = .ref p ∧ ¬ W'.B p ∧ W'.U p = none ∧ ¬ W'.O p ∧ Cont G W' d p
def EndOk (G : Gb) (fl : Fl) (D : Ends) (σ' : L2.St) (W' : Wd) : Prop := match fl with
  | .nx => D.nx σ' W'.H
  | .bk => D.bk σ' W'.H
  | .ct => D.ct σ' W'.H
  | .rt d fr => ∀ v, RetV G W' fr d v → D.rt v W'.H
def tS (G : Gb) (ws : List Nat) (en : Stt) (fl : Fl) (en' : Stt) : TS := fun D σ H => ∃ W : Wd, W.H = H ∧ W.Ok ∧ Rep G W σ en ∧
  ∀ σ' W', Step W W' → W'.Ok → Rep G W' σ' en' → OnlyAt ws σ σ' → LenOk G.K W'.H → EndOk G fl D σ' W'
def tAnyS (G : Gb) (ws : List Nat) (f : Stt → Option (Fl × Stt)) : TS := fun D σ H => ∃ en fl en', f en = some (fl, en') ∧ tS G ws en fl en' D σ H
theorem OnlyAt.mono {is js : List Nat} {σ σ' : L2.St} (h : OnlyAt is σ σ') (m : ∀ i ∈ is, i ∈ js) : OnlyAt js σ σ' := ⟨h.1, fun j hj => h.2 j fun z => hj (m j z)⟩
theorem Val.ret (ok0 : W0.Ok) (st : Step W0 W) (h : Val G W0 W fr d v) : RetV G W fr d v := by
  cases fr with
  | false => exact h
  | true =>
    obtain ⟨p, e, h1, h2, h3, h4⟩ := h
    refine ⟨p, e, fun z => ?_, h2, h3, h4⟩
    rw [st.B] at z
    obtain ⟨o, y⟩ := ok0.bas p z
    rw [h1] at y; cases y
/-- the end of one statement, the len facts put in -/
theorem end_len {D : Ends} {σ' : L2.St} (hG : G.K = X.K) (h : EndOk G fl D σ' W') : EndOk G fl (eLen X.K D) σ' W' := by
  cases fl with
  | nx => exact fun _ => h
  | bk => exact fun _ => h
  | ct => exact fun _ => h
  | rt d fr => exact fun v z _ => h v z
/-! ### sequences -/
include hG in
theorem ss_nil : PSs X [] (tS G [] en .nx en) := pss_imp pss_nil fun D σ H hl ⟨W, e1, ok, rp, k⟩ => by
  subst e1
  exact fun hl' => k σ W (Step.refl W) ok rp (OnlyAt.refl _ _) (by rw [hG]; exact hl')
theorem ss_nx {st : Stmt} {rest : List Stmt} (h1 : PS X st (tS G ws1 en .nx en1)) (h2 : PSs X rest (tS G ws2 en1 fl en2)) : PSs X (st :: rest) (tS G (ws1 ++ ws2) en fl en2) :=
  pss_imp (pss_cons h1 h2) fun D σ H _ ⟨W, e1, ok, rp, k⟩ => by
    subst e1
    refine ⟨W, rfl, ok, rp, fun σ1 W1 st1 ok1 rp1 oa1 l1 => ?_⟩
    refine ⟨W1, rfl, ok1, rp1, fun σ2 W2 st2 ok2 rp2 oa2 l2 => ?_⟩
    have := k σ2 W2 (st1.trans ok1 st2) ok2 rp2 ((oa1.mono fun i hi => List.mem_append_left _ hi).trans (oa2.mono fun i hi => List.mem_append_right _ hi)) l2
    cases fl with
    | nx => exact fun _ => this
    | bk => exact fun _ => this
    | ct => exact fun _ => this
    | rt d fr => exact fun v z _ => this v z
theorem ss_end {st : Stmt} {rest : List Stmt} (hn : fl ≠ .nx) (h1 : PS X st (tS G ws1 en fl en1)) : PSs X (st :: rest) (tS G (ws1 ++ ws2) en fl en1) :=
  pss_imp (pss_cons h1 pss_never) fun D σ H _ ⟨W, e1, ok, rp, k⟩ => by
    subst e1
    refine ⟨W, rfl, ok, rp, fun σ1 W1 st1 ok1 rp1 oa1 l1 => ?_⟩
    have := k σ1 W1 st1 ok1 rp1 (oa1.mono fun i hi => List.mem_append_left _ hi) l1
    cases fl with
    | nx => exact absurd rfl hn
    | bk => exact fun _ => this
    | ct => exact fun _ => this
    | rt d fr => exact fun v z _ => this v z
theorem ps_mono {st : Stmt} (h : PS X st (tS G ws1 en fl en1)) (m : ∀ i ∈ ws1, i ∈ ws2) : PS X st (tS G ws2 en fl en1) :=
  ps_imp h fun D σ H _ ⟨W, e1, ok, rp, k⟩ => by
    subst e1
    refine ⟨W, rfl, ok, rp, fun σ1 W1 st1 ok1 rp1 oa1 l1 => ?_⟩
    have := k σ1 W1 st1 ok1 rp1 (oa1.mono m) l1
    cases fl with
    | nx => exact fun _ => this
    | bk => exact fun _ => this
    | ct => exact fun _ => this
    | rt d fr => exact fun v z _ => this v z
/-! ### the plain ones -/
include hG in
theorem s_pass {pos : Pos} : PS X (.Pass pos) (tS G [] en .nx en) := ps_imp ps_pass fun D σ H hl ⟨W, e1, ok, rp, k⟩ => by
  subst e1
  exact fun hl' => k σ W (Step.refl W) ok rp (OnlyAt.refl _ _) (by rw [hG]; exact hl')
include hG in
theorem s_break {pos : Pos} : PS X (.Break pos) (tS G [] en .bk en) := ps_imp ps_break fun D σ H hl ⟨W, e1, ok, rp, k⟩ => by
  subst e1
  exact fun hl' => k σ W (Step.refl W) ok rp (OnlyAt.refl _ _) (by rw [hG]; exact hl')
include hG in
theorem s_cont {pos : Pos} : PS X (.Continue pos) (tS G [] en .ct en) := ps_imp ps_continue fun D σ H hl ⟨W, e1, ok, rp, k⟩ => by
  subst e1
  exact fun hl' => k σ W (Step.refl W) ok rp (OnlyAt.refl _ _) (by rw [hG]; exact hl')
theorem s_exp {e : Expr} {pos : Pos} {r : R} (h : PE X e (tD G q en r)) (hs : swapsWith e none pos.line X.env = pure false) : PS X (.Expr e pos) (tS G [] en .nx r.en) :=
  ps_imp (ps_expr h hs) fun D σ H hl ⟨W, e1, ok, rp, k⟩ => by
    subst e1
    exact ⟨W, rfl, ok, rp, fun v W1 st1 ok1 rp1 _ _ l1 => fun _ => k σ W1 st1 ok1 rp1 (OnlyAt.refl _ _) l1⟩
theorem s_ret {e : Expr} {pos : Pos} {r : R} (h : PE X e (tD G q en r)) : PS X (.Return (some e) pos) (tS G [] en (.rt r.d r.fr) r.en) :=
  ps_imp (ps_ret h) fun D σ H hl ⟨W, e1, ok, rp, k⟩ => by
    subst e1
    exact ⟨W, rfl, ok, rp, fun v W1 st1 ok1 rp1 vl _ l1 => fun _ => k σ W1 st1 ok1 rp1 (OnlyAt.refl _ _) l1 v (vl.ret ok st1)⟩
include hG in
theorem s_retN {pos : Pos} : PS X (.Return none pos) (tS G [] en (.rt .non false) en) := ps_imp ps_retN fun D σ H hl ⟨W, e1, ok, rp, k⟩ => by
  subst e1
  exact fun hl' => k σ W (Step.refl W) ok rp (OnlyAt.refl _ _) (by rw [hG]; exact hl') _ Dat.non
/-- p let go -/
def Wd.drop (W : Wd) (p : Addr) : Wd := { W with O := fun q => W.O q ∧ q ≠ p }
/-- an own name's list is given back -/
theorem Rep.dropLoc {i : Nat} (ok : W.Ok) (r : Rep G W σ en) (h : en.loc[i]? = some (.ow d)) (hv : σ[i]? = some (some v)) :
    ∃ W', W'.H = W.H ∧ W'.Ok ∧ Step W W' ∧ RetV G W' true d v ∧ Rep G W' σ (en.set i .no) := by
  obtain ⟨own, h1, h2⟩ := r.ex
  have hat : en.at (.loc i) = .ow d := getD_of h
  have hi := lt_of_get h
  rcases h1 (.loc i) with z | ⟨u, e1, e2⟩
  · rw [hat] at z; cases z
  · have e1 : σ[i]? = some (some u) := e1
    rw [hv] at e1; cases e1
    rw [hat] at e2
    obtain ⟨rfl, a2, a3, a4⟩ := e2
    obtain ⟨o, b1⟩ := a4.there
    have hU : W.U (own (.loc i)) = none := by
      cases e : W.U (own (.loc i)) with
      | none => rfl
      | some o' => exact absurd a2 (ok.sub _ _ e).2
    refine ⟨W.drop (own (.loc i)), rfl, ⟨fun p o z => ⟨(ok.sub p o z).1, fun y => (ok.sub p o z).2 y.1⟩, fun p z => ok.own p z.1, ok.bas⟩, ⟨rfl, Sub.refl _, fun p o z _ => z, fun p o z => ⟨o, z⟩, fun p z => ?_, ⟨[], by simp [Wd.drop]⟩⟩, ⟨_, rfl, a3, hU, fun z => z.2 rfl, ?_⟩, ?_⟩
    · rcases z with z | z
      · exact .inl z
      · exact .inr (.inl z.1)
    · exact a4
    · have hK := a4.kind b1
      refine ⟨by rw [show (en.set i .no).loc.length = en.loc.length from List.length_set]; exact r.len, r.obs, r.nod, fun n ob e => ?_, r.nof, own, fun x => ?_, fun x y hx hy e => ?_⟩
      · obtain ⟨a, dx, fs, z1, z2, z3, z4, z5, z6⟩ := (r.ob n ob e).ex
        refine ⟨a, dx, fs, z1, z2, ⟨z3, fun e => ?_⟩, ⟨z4, fun e => ?_⟩, z5, z6⟩
        · subst e; rw [z2] at b1; cases b1; exact hK.1 _ _ _ rfl
        · subst e; rw [z5] at b1; cases b1; exact hK.2 _ rfl
      · rw [at_set hi]
        by_cases hx : x = .loc i
        · rw [if_pos hx]; exact .inl rfl
        · rw [if_neg hx]
          rcases h1 x with z | ⟨u, z1, z2⟩
          · exact .inl z
          · refine .inr ⟨u, ?_, ?_⟩
            · cases x with
              | loc j => exact z1
              | fld n f => exact z1
            · have ne : (en.at x).own = true → own x ≠ own (.loc i) := fun z y => hx (h2 x (.loc i) z (by rw [hat]; rfl) y)
              generalize en.at x = s at z2 ne
              cases s with
              | no => trivial
              | sh d' => exact z2
              | ow d' => exact ⟨z2.1, ⟨z2.2.1, ne rfl⟩, z2.2.2.1, by have := z2.2.2.2; cases d' <;> exact this⟩
              | io d' => exact ⟨z2.1, ⟨z2.2.1, ne rfl⟩, by have := z2.2.2; cases d' <;> exact this⟩
      · rw [at_set hi] at hx hy
        by_cases ex : x = .loc i
        · rw [if_pos ex] at hx; cases hx
        · by_cases ey : y = .loc i
          · rw [if_pos ey] at hy; cases hy
          · rw [if_neg ex] at hx; rw [if_neg ey] at hy
            exact h2 x y hx hy e
include hG in
theorem s_retO {i : Nat} {x : Str} {p pos : Pos} (hN : X.N[i]? = some x) (hv : Vis X.env.scope x) (hd : (x == ("__debug__" : Str)) = false) (hcd : (x == ("__classdict__" : Str)) = false)
    (hs : en.loc[i]? = some (.ow d)) : PS X (.Return (some (.Name x p)) pos) (tS G [] en (.rt d true) (en.set i .no)) :=
  ps_imp (ps_ret (pe_var hN hv hd hcd)) fun D σ H hl ⟨W, e1, ok, rp, k⟩ => by
    subst e1
    rcases rp.loc hs with z | ⟨v, e1, _⟩
    · cases z
    · obtain ⟨W', a1, a2, a3, a4, a5⟩ := rp.dropLoc ok hs e1
      refine ⟨v, e1, fun hl1 => ?_⟩
      have := k σ W' a3 a2 a5 (OnlyAt.refl _ _) (by rw [a1, hG]; exact hl1) v a4
      rwa [a1] at this
/-! ### names -/
theorem s_asg {i : Nat} {x : Str} {e : Expr} {r : R} {pos pos' : Pos} (hN : X.N.Nodup) (hi : X.N[i]? = some x) (hx : Loc X.env.scope x) (he : PE X e (tD G q en r)) (hs : swapsWith e (some (.Name x pos')) pos.line X.env = pure false)
    (hf : X.fn x = true ∨ X.env.scope.names.lookup x = some .local) (hp : putO r.en i r.fr r.d = some en') : PS X (.Assign [.Name x pos'] e pos) (tS G [i] en .nx en') :=
  ps_imp (ps_set hN hi hx he hs hf) fun D σ H hl ⟨W, e1, ok, rp, k⟩ => by
    subst e1
    obtain ⟨c1, rfl⟩ := putO_some hp
    refine ⟨W, rfl, ok, rp, fun v W1 st1 ok1 rp1 vl _ l1 => ?_⟩
    obtain ⟨W2, hh, ok2, st2, rp2⟩ := rp1.put ok1 ok st1 (canPut_lt c1) vl
    have := k _ W2 st2 ok2 rp2 (OnlyAt.set (by simp)) (by rw [hh]; exact l1)
    show LenOk _ W1.H → D.nx _ W1.H
    rw [← hh]
    exact fun _ => this
theorem s_asgT {t : Tg} {e tg : Expr} {r : R} {pos : Pos} (he : PE X e (tD G q en r)) (hg : PG X tg (gT G.K t)) (hs : swapsWithSole [tg] e pos.line X.env = pure false) (hw : swappedStores [tg] e X.env = pure none)
    (h1 : (assignEach [tg] X.env).map (·.2) = [assign tg X.env]) (hp : asgTg r.en r.d t = some en') : PS X (.Assign [tg] e pos) (tS G t.slots en .nx en') :=
  ps_imp (ps_asg (d_share he) hg hs hw h1) fun D σ H hl ⟨W, e1, ok, rp, k⟩ => by
    subst e1
    refine ⟨W, rfl, ok, rp, fun v W1 st1 ok1 rp1 vl _ l1 => ?_⟩
    exact asg_ok ok1 rp1 vl hp fun σ' rp' oa => fun _ => k σ' W1 st1 ok1 rp' oa l1
/-! ### if, for, while -/
theorem s_if {c : Expr} {p n : List Stmt} {pos : Pos} {tp tn : TS} {x : Bool} (hc : PT X c (tDT G q en x en1)) (hp : PSs X p tp) (hn : PSs X n tn)
    (hb : PSs X (if x = true then p else n) (tS G ws en1 fl en2)) : PS X (.If c p n pos) (tS G ws en fl en2) := by
  cases x with
  | true =>
    refine ps_imp (ps_if hc hb pss_never) fun D σ H hl ⟨W, e1, ok, rp, k⟩ => ?_
    subst e1
    refine ⟨W, rfl, ok, rp, fun W1 st1 ok1 rp1 _ l1 => iteT ⟨W1, rfl, ok1, rp1, fun σ2 W2 st2 ok2 rp2 oa2 l2 => ?_⟩⟩
    have := k σ2 W2 (st1.trans ok1 st2) ok2 rp2 oa2 l2
    cases fl with
    | nx => exact fun _ => this
    | bk => exact fun _ => this
    | ct => exact fun _ => this
    | rt d fr => exact fun v z _ => this v z
  | false =>
    refine ps_imp (ps_if hc pss_never hb) fun D σ H hl ⟨W, e1, ok, rp, k⟩ => ?_
    subst e1
    refine ⟨W, rfl, ok, rp, fun W1 st1 ok1 rp1 _ l1 => iteF ⟨W1, rfl, ok1, rp1, fun σ2 W2 st2 ok2 rp2 oa2 l2 => ?_⟩⟩
    have := k σ2 W2 (st1.trans ok1 st2) ok2 rp2 oa2 l2
    cases fl with
    | nx => exact fun _ => this
    | bk => exact fun _ => this
    | ct => exact fun _ => this
    | rt d fr => exact fun v z _ => this v z
theorem chk_src {c : Option (Pl × List D)} {Sd : Wd → Prop} {σ' : L2.St} (hs : Stands G σ W1 Sd c) (st : Step W1 W) (ok : W.Ok) (rp : Rep G W σ' en) (hc : chkOk c en = true) (hown : ∀ x ds i, c = some (x, ds) → x = .loc i → σ'[i]? = σ[i]?) : Sd W := by
  cases c with
  | none => exact hs W st ok
  | some p =>
    obtain ⟨x, ds⟩ := p
    obtain ⟨i, rfl, hs⟩ := hs
    unfold chkOk at hc
    simp only at hc
    split at hc
    · rename_i z
      exact hs W σ' en ok rp z (hown _ _ _ rfl rfl)
    · cases hc
theorem s_for {iter : Expr} {body : List Stmt} {pos : Pos} {t : Tg} {f : Stt → Option (Fl × Stt)} {xs : List D} {c : Option (Pl × List D)}
    (hp : PassesOwn (model X.prog X.w) X.A X.env X.xe) (hc : X.calm = true) (hi : PI X tg iter (tSrc G q en xs c en1)) (hg : PG X tg (gT G.K t)) (hb : PSs X body (tAnyS G ws f))
    (hs : ∀ x, foldedSetIterable iter X.env x = pure x) (hown : ∀ x ds i, c = some (x, ds) → x = .loc i → i ∉ t.slots ++ ws)
    (hev : forLp (fun x en => asgTg en x t) f c xs en1 = some (fl, en2)) : PS X (.For tg iter body [] pos) (tS G (t.slots ++ ws) en fl en2) := by
  refine ps_imp (ps_for hp hc hi hg hb hs) fun D σ H _ ⟨W, e1, okW, rp, k⟩ => ?_
  subst e1
  refine ⟨W, rfl, okW, rp, fun J W1 Sd st1 ok1 rp1 wk sd sd1 lenx qs1 l1 => ?_⟩
  have locc : ∀ x ds, c = some (x, ds) → ∃ i, x = .loc i := fun x ds e => by
    subst e; obtain ⟨i, h, _⟩ := sd; exact ⟨i, h⟩
  refine ⟨fun i m σ' H => i ≤ xs.length ∧ m = xs.length - i ∧ ∃ (W2 : Wd) (en' : Stt), W2.H = H ∧ W2.Ok ∧ Step W1 W2 ∧ Rep G W2 σ' en' ∧ OnlyAt (t.slots ++ ws) σ σ' ∧ LenOk G.K W2.H ∧
      forLp (fun x en => asgTg en x t) f c (xs.drop i) en' = some (fl, en2), ⟨_, Nat.zero_le _, rfl, W1, en1, rfl, ok1, Step.refl _, rp1, OnlyAt.refl _ _, l1, hev⟩, ?_⟩
  rintro i m σ' H ⟨hi, rfl, W2, en', rfl, ok2, st2, rp2, oa2, l2, hlp⟩
  have chk : chkOk c en' = true := by
    cases hx : xs.drop i with
    | nil => rw [hx] at hlp; unfold forLp at hlp; split at hlp <;> first | assumption | cases hlp
    | cons x r => rw [hx] at hlp; unfold forLp at hlp; split at hlp <;> first | assumption | cases hlp
  have hSd : Sd W2 := chk_src sd st2 ok2 rp2 chk fun x ds j e1 e2 => oa2.2 j (hown x ds j e1 e2)
  by_cases hlt : i < xs.length
  · refine .inr ⟨wk.goes W2 i hSd ok2 hlt, fun σ' H' => i + 1 ≤ xs.length ∧ ∃ (W2 : Wd) (en' : Stt), W2.H = H' ∧ W2.Ok ∧ Step W1 W2 ∧ Rep G W2 σ' en' ∧ OnlyAt (t.slots ++ ws) σ σ' ∧ LenOk G.K W2.H ∧
      forLp (fun x en => asgTg en x t) f c (xs.drop (i + 1)) en' = some (fl, en2), fun σ' H' hN' => ?_, fun x H' hy => ?_⟩
    · obtain ⟨z1, z2⟩ := hN'
      exact ⟨xs.length - (i + 1), by omega, z1, rfl, z2⟩
    · obtain ⟨W3, dx, rfl, ps3, ok3, hdx, dtx⟩ := wk.yields W2 i x H' hSd ok2 hlt hy
      have hdrop : xs.drop i = dx :: xs.drop (i + 1) := by
        rw [List.drop_eq_getElem_cons hlt]
        rw [List.getElem?_eq_getElem hlt] at hdx
        cases hdx; rfl
      rw [hdrop] at hlp
      unfold forLp at hlp
      rw [if_pos chk] at hlp
      cases hasg : asgTg en' dx t with
      | none => rw [hasg] at hlp; cases hlp
      | some ena =>
        rw [hasg] at hlp
        simp only at hlp
        refine asg_ok ok3 (rp2.pstep ps3) dtx hasg fun σ3 rpa oa => ?_
        cases hf : f ena with
        | none => rw [hf] at hlp; cases hlp
        | some p =>
          obtain ⟨flb, enb⟩ := p
          rw [hf] at hlp
          refine ⟨ena, flb, enb, hf, W3, rfl, ok3, rpa, fun σ4 W4 st4 ok4 rp4 oa4 l4 => ?_⟩
          have oa' : OnlyAt (t.slots ++ ws) σ σ4 := (oa2.trans (oa.mono fun i hi => List.mem_append_left _ hi)).trans (oa4.mono fun i hi => List.mem_append_right _ hi)
          have st' : Step W1 W4 := (st2.trans ok2 ps3.S).trans ok3 st4
          cases flb with
          | nx => exact ⟨by omega, W4, enb, rfl, ok4, st', rp4, oa', l4, hlp⟩
          | ct => exact ⟨by omega, W4, enb, rfl, ok4, st', rp4, oa', l4, hlp⟩
          | bk =>
            cases hlp
            exact fun _ => k σ4 W4 (st1.trans ok1 st') ok4 rp4 oa' l4
          | rt d fr =>
            cases hlp
            exact fun v z _ => k σ4 W4 (st1.trans ok1 st') ok4 rp4 oa' l4 v z
  · have e : i = xs.length := by omega
    subst e
    rw [List.drop_length] at hlp
    unfold forLp at hlp
    rw [if_pos chk] at hlp
    cases hlp
    exact .inl ⟨wk.stops W2 hSd ok2, fun _ => k σ' W2 (st1.trans ok1 st2) ok2 rp2 oa2 l2⟩
theorem s_whl {c : Expr} {body : List Stmt} {pos : Pos} {cf : Stt → Option (Bool × Stt)} {f : Stt → Option (Fl × Stt)} {n : Nat}
    (hp : PassesOwn (model X.prog X.w) X.A X.env X.xe) (hc : PT X c (tAnyT G cf)) (hb : PSs X body (tAnyS G ws f))
    (hev : whlLp cf f n en = some (fl, en2)) : PS X (.While c body [] pos) (tS G ws en fl en2) := by
  refine ps_imp (ps_while hp hc hb) fun D σ H l0 ⟨W, e1, okW, rp, k⟩ => ?_
  subst e1
  refine ⟨fun m σ' H => ∃ (W2 : Wd) (en' : Stt), W2.H = H ∧ W2.Ok ∧ Step W W2 ∧ Rep G W2 σ' en' ∧ OnlyAt ws σ σ' ∧ whlLp cf f m en' = some (fl, en2), ⟨_, W, en, rfl, okW, Step.refl _, rp, OnlyAt.refl _ _, hev⟩, ?_⟩
  rintro m σ' H ⟨W2, en', rfl, ok2, st2, rp2, oa2, hlp⟩
  cases m with
  | zero => cases hlp
  | succ m =>
    unfold whlLp at hlp
    cases hcf : cf en' with
    | none => rw [hcf] at hlp; cases hlp
    | some p =>
      obtain ⟨b, enb⟩ := p
      rw [hcf] at hlp
      refine ⟨en', b, enb, hcf, W2, rfl, ok2, rp2, fun W3 st3 ok3 rp3 _ l3 => ?_⟩
      have st' := st2.trans ok2 st3
      cases b with
      | false =>
        cases hlp
        exact iteF fun _ => k σ' W3 st' ok3 rp3 oa2 l3
      | true =>
        simp only at hlp
        refine iteT ⟨fun σ' H' => ∃ (W2 : Wd) (en' : Stt), W2.H = H' ∧ W2.Ok ∧ Step W W2 ∧ Rep G W2 σ' en' ∧ OnlyAt ws σ σ' ∧ whlLp cf f m en' = some (fl, en2), fun σ'' H'' hN => ⟨m, Nat.lt_succ_self m, hN⟩, ?_⟩
        cases hf : f enb with
        | none => rw [hf] at hlp; cases hlp
        | some p =>
          obtain ⟨flb, enc⟩ := p
          rw [hf] at hlp
          refine ⟨enb, flb, enc, hf, W3, rfl, ok3, rp3, fun σ4 W4 st4 ok4 rp4 oa4 l4 => ?_⟩
          have oa' := oa2.trans oa4
          have st'' := st'.trans ok3 st4
          cases flb with
          | nx => exact ⟨W4, enc, rfl, ok4, st'', rp4, oa', hlp⟩
          | ct => exact ⟨W4, enc, rfl, ok4, st'', rp4, oa', hlp⟩
          | bk =>
            cases hlp
            exact fun _ => k σ4 W4 st'' ok4 rp4 oa' l4
          | rt d fr =>
            cases hlp
            exact fun v z _ => k σ4 W4 st'' ok4 rp4 oa' l4 v z
end
end Py
/-! Stores into lists; methods that change a list; pairs of names. -/
namespace Py
open PySem PySem.Spec PyProof.Rows L2
open Classical
def mutD : Mut → D → List D → Option (D × D)
  | .append, .lst xs, [d] => if xs.length < lim then some (.lst (xs ++ [d]), .non) else none
  | .extend, .lst xs, [.lst ys] => if xs.length + ys.length ≤ lim then some (.lst (xs ++ ys), .non) else none
  | .pop, .lst xs, [] => match xs[xs.length - 1]? with
    | some y => some (.lst xs.dropLast, y)
    | none => none
  | .pop, .lst xs, [.int i] => if -(2 ^ 63) ≤ i ∧ i < 2 ^ 63 then
      match seqIndex? i xs.length with
      | some k => match xs[k]? with
        | some y => some (.lst (xs.eraseIdx k), y)
        | none => none
      | none => none
    else none
  | .clear, .lst _, [] => some (.lst [], .non)
  | .insert, .lst xs, [.int i, d] => if 0 ≤ i ∧ i < 2 ^ 63 ∧ xs.length < lim then some (.lst (xs.take i.toNat ++ [d] ++ xs.drop i.toNat), .non) else none
  | _, _, _ => none
def setD : D → D → D → Option D
  | .lst xs, .int k, v => match ixN xs.length k with
    | some j => some (.lst (xs.set j v))
    | none => none
  | _, _, _ => none
def augD : Operator → D → D → Option D
  | .Add, .int i, .int j => some (.int (i + j))
  | .Add, .str x, .str y => if x.length + y.length ≤ lim then some (.str (x ++ y)) else none
  | .Sub, .int i, .int j => some (.int (i - j))
  | .Mult, .int i, .int j => if mulOk i j then some (.int (i * j)) else none
  | _, _, _ => none
section
variable {G : Gb} {W W0 W1 W2 W' : Wd} {σ : L2.St} {en en' en1 en2 en3 en4 : Stt} {d d' e r rd : D} {v u : V} {q q1 q2 q3 : Bool} {X : Cx} (hG : G.K = X.K) {fr : Bool} {a b : Expr} {tg : Expr} {ws ws1 ws2 : List Nat} {fl fl' : Fl} {p : Addr} {ds : List D}
def Wd.mut (W : Wd) (p : Addr) (o : HO) : Wd := { W with H := upd W.H p o }
theorem mut_ok {o : HO} (ok : W.Ok) (hO : W.O p) : (W.mut p o).Ok where
  sub := fun a u e => by
    obtain ⟨h1, h2⟩ := ok.sub a u e
    have : a ≠ p := fun z => h2 (z ▸ hO)
    exact ⟨by show upd W.H p o a = _; rw [upd_ne this]; exact h1, h2⟩
  own := fun a z => by
    by_cases h : a = p
    · subst h; exact ⟨_, upd_same⟩
    · obtain ⟨u, y⟩ := ok.own a z
      exact ⟨u, by show upd W.H p o a = _; rw [upd_ne h]; exact y⟩
  bas := fun a z => by
    by_cases h : a = p
    · subst h; exact ⟨_, upd_same⟩
    · obtain ⟨u, y⟩ := ok.bas a z
      exact ⟨u, by show upd W.H p o a = _; rw [upd_ne h]; exact y⟩
theorem mut_step {o : HO} (hO : W.O p) : Step W (W.mut p o) where
  B := rfl
  U := Sub.refl _
  H := fun a u z ha => by
    have : a ≠ p := fun e => ha (e ▸ hO)
    show upd W.H p o a = _
    rw [upd_ne this]; exact z
  K := fun a u z => by
    by_cases h : a = p
    · subst h; exact ⟨_, upd_same⟩
    · exact ⟨u, by show upd W.H p o a = _; rw [upd_ne h]; exact z⟩
  N := fun a z => z.elim .inl fun z => .inr (.inl z)
  A := ⟨[], by simp [Wd.mut]⟩
theorem Cont.mutNe {o : HO} {q : Addr} (h : Cont G W d q) (n : q ≠ p) : Cont G (W.mut p o) d q := by
  cases d with
  | lst ds => obtain ⟨vs, c1, c2⟩ := h; exact ⟨vs, by show upd W.H p _ q = _; rw [upd_ne n]; exact c1, c2⟩
  | dic kds => obtain ⟨kvs, ds, c1, c2⟩ := h; exact ⟨kvs, ds, by show upd W.H p _ q = _; rw [upd_ne n]; exact c1, c2⟩
  | _ => exact h.elim
theorem upd_setSlot {s : Slot} {d : D} (h : s.own = true) : (s.upd d).own = true := by cases s <;> first | rfl | cases h
/-- an owned thing is changed in place -/
theorem Rep.mut {x : Pl} (ok : W.Ok) (rp : Rep G W σ en) (hx : (en.at x).own = true) (hv : ValAt G W σ x v) (hd : (en.at x).dat = some d) :
    ∃ p, v = .ref p ∧ W.O p ∧ Cont G W d p ∧ ∀ d' o', Cont G (W.mut p o') d' p → Rep G (W.mut p o') σ (en.setP x ((en.at x).upd d')) := by
  obtain ⟨own, h1, h2⟩ := rp.ex
  have hno : en.at x ≠ .no := fun z => by rw [z] at hx; cases hx
  rcases h1 x with z | ⟨u, e1, e2⟩
  · exact absurd z hno
  · obtain rfl := hv.inj e1
    have key : v = .ref (own x) ∧ W.O (own x) ∧ Cont G W d (own x) := by
      generalize en.at x = s at hx hd e2
      cases s with
      | no => cases hx
      | sh d => cases hx
      | ow d' => cases hd; exact ⟨e2.1, e2.2.1, e2.2.2.2⟩
      | io d' => cases hd; exact ⟨e2.1, e2.2.1, e2.2.2⟩
    obtain ⟨rfl, hO, hc⟩ := key
    refine ⟨own x, rfl, hO, hc, fun d' o' hc' => ?_⟩
    obtain ⟨o, b1⟩ := hc.there
    obtain ⟨k1, k2⟩ := hc.kind b1
    have nea : ∀ {a : Addr} {C : Addr} {dx : Addr} {fs : List (Str × V)}, W.H a = some (.ins C dx fs) → a ≠ own x := fun z e => by
      subst e; rw [b1] at z; cases z; exact k1 _ _ _ rfl
    have ned : ∀ {a b : Addr}, W.H a = some (.own b) → a ≠ own x := fun z e => by
      subst e; rw [b1] at z; cases z; exact k2 _ rfl
    have va : ∀ {y : Pl} {w : V}, ValAt G W σ y w → ValAt G (W.mut (own x) o') σ y w := fun {y w} z => by
      cases y with
      | loc i => exact z
      | fld n f =>
        obtain ⟨a, C, dx, fs, nm, z1, z2, z3, z4⟩ := z
        exact ⟨a, C, dx, fs, nm, z1, by show upd W.H _ _ a = _; rw [upd_ne (nea z2)]; exact z2, z3, z4⟩
    refine ⟨by rw [setP_len]; exact rp.len, by rw [setP_obs]; exact rp.obs, rp.nod, fun n ob e => ?_, fun n f dd z => ?_, own, fun y => ?_, fun y z hy hz e => ?_⟩
    · obtain ⟨ob', e3, e4⟩ := setP_cls e
      obtain ⟨a, dx, fs, z1, z2, z3, z4, z5, z6⟩ := (rp.ob n ob' e3).ex
      exact ⟨a, dx, fs, z1, by rw [← e4]; show upd W.H _ _ a = _; rw [upd_ne (nea z2)]; exact z2, z3, z4, by show upd W.H _ _ dx = _; rw [upd_ne (ned z5)]; exact z5, z6⟩
    · have z : (en.setP x ((en.at x).upd d')).at (.fld n f) = .ow dd := z
      rw [at_setP hno] at z
      by_cases hy : Pl.fld n f = x
      · rw [if_pos hy] at z
        subst hy
        cases hs : en.at (.fld n f) with
        | no => exact absurd hs hno
        | sh d => rw [hs] at z; cases z
        | ow d => exact rp.nof n f d hs
        | io d => rw [hs] at z; cases z
      · rw [if_neg hy] at z; exact rp.nof n f dd z
    · rw [at_setP hno]
      by_cases hy : y = x
      · rw [if_pos hy]; subst hy
        refine .inr ⟨_, va hv, ?_⟩
        generalize en.at y = s at hx e2
        cases s with
        | no => cases hx
        | sh d => cases hx
        | ow d => exact ⟨rfl, hO, e2.2.2.1, hc'⟩
        | io d => exact ⟨rfl, hO, hc'⟩
      · rw [if_neg hy]
        rcases h1 y with z | ⟨w, z1, z2⟩
        · exact .inl z
        · refine .inr ⟨w, va z1, ?_⟩
          have ne : (en.at y).own = true → own y ≠ own x := fun z e => hy (h2 y x z hx e)
          generalize en.at y = s at z2 ne
          cases s with
          | no => trivial
          | sh d => exact z2
          | ow d => exact ⟨z2.1, z2.2.1, z2.2.2.1, z2.2.2.2.mutNe (ne rfl)⟩
          | io d => exact ⟨z2.1, z2.2.1, z2.2.2.mutNe (ne rfl)⟩
    · rw [at_setP hno] at hy hz
      have hy' : (en.at y).own = true := by
        by_cases h : y = x
        · subst h; exact hx
        · rw [if_neg h] at hy; exact hy
      have hz' : (en.at z).own = true := by
        by_cases h : z = x
        · subst h; exact hx
        · rw [if_neg h] at hz; exact hz
      exact h2 y z hy' hz' e
/-- what a method does to the thing at p -/
def Mlaw (G : Gb) (rr : V → List V → Hp → VK → Prop) (d : D) (ds : List D) (d' rd : D) : Prop := ∀ W p us Q, W.Ok → W.O p → Cont G W d p → DatL G W.A W.U ds us → LenOk G.K W.H →
  (∀ z o', Cont G (W.mut p o') d' p → Dat G W.A W.U rd z → Q z (upd W.H p o')) → rr (.ref p) us W.H Q
include hG in
theorem d_mut {e' : Expr} {x : Pl} {T : String} {rr : V → List V → Hp → VK → Prop} (hp : PE X e' (tBM X.K T rr (tArg G q1 en (.pl x) en1) (tLs G q2 en1 ds en2))) (hq : (AV.pl x).isF = true → q2 = true)
    (hx1 : (en1.at x).own = true) (hd1 : (en1.at x).dat = some e) (hT : ∀ W p, Cont G W e p → tyV X.K T (.ref p) W.H)
    (hx : (en2.at x).own = true) (hd : (en2.at x).dat = some d) (hr : Mlaw G rr d ds d' rd) : PE X e' (tD G false en ⟨rd, false, en2.setP x ((en2.at x).upd d')⟩) :=
  pe_imp hp fun σ H Q _ ⟨W, e1, ok, rp, k⟩ => by
    subst e1
    refine ⟨W, rfl, ok, rp, fun v W1 st1 ok1 rp1 a1 qs1 l1 => ?_⟩
    obtain ⟨p1, rfl, _, c1, _⟩ := rp1.mut ok1 hx1 a1 hd1
    refine ⟨hT W1 p1 c1, W1, rfl, ok1, rp1, fun us W2 st2 ok2 rp2 a2 qs2 l2 => ?_⟩
    have a1' : AvOk G W W2 σ (.pl x) (.ref p1) := a1.step st2 fun z => qs2 (hq z)
    obtain ⟨p, e2, hO, hc, hm⟩ := rp2.mut ok2 hx a1' hd
    cases e2
    refine hr W2 p1 us _ ok2 hO hc a2 l2 fun z o' hc' dz => fun hl => ?_
    exact k z (W2.mut p1 o') ((st1.trans ok1 st2).trans ok2 (mut_step hO)) (mut_ok ok2 hO) (hm d' o' hc') dz QS.f (by rw [hG]; exact hl)
include hG in
theorem d_mut0 {e' : Expr} {x : Pl} {T : String} {rr : V → List V → Hp → VK → Prop} (hp : PE X e' (tBM0 X.K T rr (tArg G q1 en (.pl x) en1)))
    (hT : ∀ W p, Cont G W d p → tyV X.K T (.ref p) W.H)
    (hx : (en1.at x).own = true) (hd : (en1.at x).dat = some d) (hr : Mlaw G rr d [] d' rd) : PE X e' (tD G false en ⟨rd, false, en1.setP x ((en1.at x).upd d')⟩) :=
  pe_imp hp fun σ H Q _ ⟨W, e1, ok, rp, k⟩ => by
    subst e1
    refine ⟨W, rfl, ok, rp, fun v W1 st1 ok1 rp1 a1 qs1 l1 => ?_⟩
    obtain ⟨p1, rfl, hO, c1, hm⟩ := rp1.mut ok1 hx a1 hd
    refine ⟨hT W1 p1 c1, ?_⟩
    refine hr W1 p1 [] _ ok1 hO c1 .nil l1 fun z o' hc' dz => fun hl => ?_
    exact k z (W1.mut p1 o') (st1.trans ok1 (mut_step hO)) (mut_ok ok1 hO) (hm d' o' hc') dz QS.f (by rw [hG]; exact hl)
theorem DatL.dropLast {A : List Addr} {U : Hp} {ds : List D} {vs : List V} (h : DatL G A U ds vs) : DatL G A U ds.dropLast vs.dropLast := by
  rw [List.dropLast_eq_take, List.dropLast_eq_take, h.length]; exact h.take _
theorem datL1 {A : List Addr} {U : Hp} {d : D} {vs : List V} (h : DatL G A U [d] vs) : ∃ v, vs = [v] ∧ Dat G A U d v := by
  cases h with
  | cons a b => cases b; exact ⟨_, rfl, a⟩
theorem mut_cont {vs : List V} {ds : List D} (h : DatL G W.A W.U ds vs) : Cont G (W.mut p (.lst vs)) (.lst ds) p := ⟨vs, upd_same, h⟩
def mutId : Mut → String
  | .append => "list.append"
  | .extend => "list.extend"
  | .pop => "list.pop"
  | .insert => "list.insert"
  | .clear => "list.clear"
  | .setdefault => "dict.setdefault"
  | .update => "dict.update"
theorem mut_law {m : Mut} (h : mutD m d ds = some (d', rd)) : ∃ rr, MtM X (mutId m) rr ∧ Mlaw G rr d ds d' rd ∧ ∃ xs, d = .lst xs := by
  unfold mutD at h
  split at h
  · rename_i xs y
    by_cases hz : xs.length < lim
    · rw [if_pos hz] at h; cases h
      refine ⟨_, mt_append, fun W p us Q ok hO hc dl hl k => ?_, _, rfl⟩
      obtain ⟨vs, h1, h2⟩ := hc
      obtain ⟨v, rfl, dv⟩ := datL1 dl
      exact ⟨p, vs, v, rfl, rfl, h1, by rw [← h2.length, ← lim_line]; exact hz, k _ _ (mut_cont (h2.append (.cons dv .nil))) .non⟩
    · rw [if_neg hz] at h; cases h
  · rename_i xs ys
    by_cases hz : xs.length + ys.length ≤ lim
    · rw [if_pos hz] at h; cases h
      refine ⟨_, mt_extend, fun W p us Q ok hO hc dl hl k => ?_, _, rfl⟩
      obtain ⟨vs, h1, h2⟩ := hc
      obtain ⟨v, rfl, dv⟩ := datL1 dl
      cases dv with
      | @lst b zs _ g1 g2 =>
        exact ⟨p, b, vs, zs, rfl, rfl, h1, ok.subH _ _ g1, by rw [← h2.length, ← g2.length, ← lim_line]; exact hz, k _ _ (mut_cont (h2.append g2)) .non⟩
    · rw [if_neg hz] at h; cases h
  · rename_i xs
    split at h
    · rename_i y hy
      cases h
      refine ⟨_, mt_pop, fun W p us Q ok hO hc dl hl k => ?_, _, rfl⟩
      obtain ⟨vs, h1, h2⟩ := hc
      cases dl
      rw [h2.length] at hy
      obtain ⟨v, e, dv⟩ := h2.getD hy
      exact ⟨p, vs, v, rfl, rfl, h1, e, k _ _ (mut_cont h2.dropLast) dv⟩
    · cases h
  · rename_i xs i
    split at h
    · rename_i hz
      split at h
      · rename_i j hj
        split at h
        · rename_i y hy
          cases h
          refine ⟨_, mt_popAt, fun W p us Q ok hO hc dl hl k => ?_, _, rfl⟩
          obtain ⟨vs, h1, h2⟩ := hc
          obtain ⟨v, rfl, dv⟩ := datL1 dl
          cases dv
          obtain ⟨v, e, dv⟩ := h2.getD hy
          exact ⟨p, vs, _, j, v, rfl, rfl, h1, hz.1, hz.2, by rw [← h2.length]; exact hj, e, k _ _ (mut_cont (h2.eraseIdx j)) dv⟩
        · cases h
      · cases h
    · cases h
  · rename_i xs
    cases h
    refine ⟨_, mt_clear, fun W p us Q ok hO hc dl hl k => ?_, _, rfl⟩
    obtain ⟨vs, h1, h2⟩ := hc
    cases dl
    exact ⟨p, vs, rfl, rfl, h1, k _ _ (mut_cont .nil) .non⟩
  · rename_i xs i y
    split at h
    · rename_i hz
      cases h
      refine ⟨_, mt_insert, fun W p us Q ok hO hc dl hl k => ?_, _, rfl⟩
      obtain ⟨vs, h1, h2⟩ := hc
      cases dl with
      | cons d1 d2 =>
        obtain ⟨v, rfl, dv⟩ := datL1 d2
        cases d1
        exact ⟨p, vs, _, v, rfl, rfl, h1, by rw [← h2.length, ← lim_line]; exact hz.2.2, hz.1, hz.2.1, k _ _ (mut_cont (((h2.take _).append (.cons dv .nil)).append (h2.drop _))) .non⟩
    · cases h
  · cases h
/-! ### o[k] = e -/
def Slaw (G : Gb) (tset : TSet) (d k v d' : D) : Prop := ∀ W p y z Q, W.Ok → W.O p → Cont G W d p → Top G W k y → Dat G W.A W.U v z →
  (∀ o', Cont G (W.mut p o') d' p → Q (upd W.H p o')) → tset (.ref p) y z W.H Q
theorem set_law {k w : D} (h : setD d k w = some d') : ∃ tset, PSet X tset ∧ Slaw G tset d k w d' := by
  unfold setD at h
  split at h
  · rename_i xs i v
    split at h
    · rename_i j hj
      cases h
      refine ⟨_, set_list, fun W p y z Q ok hO hc hk hv kk => ?_⟩
      obtain ⟨vs, h1, h2⟩ := hc
      exact ⟨p, vs, _, j, rfl, hk.int, h1, by rw [← h2.length]; exact hj, kk _ (mut_cont (h2.set j hv))⟩
    · cases h
  · cases h
include hG in
theorem s_seti {o i e : Expr} {pos pos' : Pos} {tset : TSet} {x : Pl} {r : R} {kv : AV} {k : D} (he : PE X e (tD G q1 en r)) (ho : PE X o (tArg G q2 r.en (.pl x) en2)) (hi : PE X i (tArg G q3 en2 kv en3))
    (hset : PSet X tset) (hl : Slaw G tset d k r.d d') (hq : (AV.pl x).isF = true → q3 = true) (hx : (en3.at x).own = true) (hd : (en3.at x).dat = some d) (hk : kv.dat en3 = some k)
    (hs : swapsWithSole [.Subscript o i pos'] e pos.line X.env = pure false) (hw : swappedStores [.Subscript o i pos'] e X.env = pure none)
    (h1 : (assignEach [.Subscript o i pos'] X.env).map (·.2) = [assign (.Subscript o i pos') X.env])
    (ha : ∀ v, assign (.Subscript o i pos') X.env v = (do
      let ov ← holding [v] (eval o X.env)
      let iv ← holding [v, ov] (eval i X.env)
      standAt pos'
      holding [v, ov, iv] (setItem ov iv v)
      release [v, ov, iv] [])) :
    PS X (.Assign [.Subscript o i pos'] e pos) (tS G [] en .nx (en3.setP x ((en3.at x).upd d'))) :=
  ps_imp (ps_asg (d_share he) (pg_sub ho hi hset ha) hs hw h1) fun D σ H hl0 ⟨W, e1, ok, rp, kk⟩ => by
    subst e1
    refine ⟨W, rfl, ok, rp, fun v W1 st1 ok1 rp1 vl _ l1 => ?_⟩
    refine ⟨W1, rfl, ok1, rp1, fun ov W2 st2 ok2 rp2 a2 qs2 l2 => ?_⟩
    refine ⟨W2, rfl, ok2, rp2, fun iv W3 st3 ok3 rp3 a3 qs3 l3 => ?_⟩
    have a2' : AvOk G W1 W3 σ (.pl x) ov := a2.step st3 fun z => qs3 (hq z)
    obtain ⟨p, rfl, hO, hc, hm⟩ := rp3.mut ok3 hx a2' hd
    have st03 := (st1.trans ok1 st2).trans ok2 st3
    have dv : Dat G W3.A W3.U r.d v := by
      have vl : Dat G W1.A W1.U r.d v := vl
      exact (vl.mono st2.U st2.A).mono st3.U st3.A
    refine hl W3 p iv v _ ok3 hO hc (a3.top rp3 hk) dv fun o' hc' => fun hl2 => ?_
    exact kk σ (W3.mut p o') (st03.trans ok3 (mut_step hO)) (mut_ok ok3 hO) (hm d' o' hc') (OnlyAt.refl _ _) (by rw [hG]; exact hl2)
end
end Py
/-! op=, pairs of names, a comprehension stored. -/
namespace Py
open PySem PySem.Spec PyProof.Rows L2
open Classical
section
variable {G : Gb} {W W0 W1 W2 W' : Wd} {σ : L2.St} {en en' en1 en2 en3 en4 : Stt} {d d' e r rd : D} {v u : V} {q q1 q2 q3 : Bool} {X : Cx} (hG : G.K = X.K) {fr : Bool} {a b : Expr} {tg : Expr} {ws ws1 ws2 : List Nat} {fl fl' : Fl} {p : Addr} {ds : List D}
theorem asg_of {i : Nat} {st : Stmt} {r : R} (h : PS X st (tAsg (tD G q en r) (gName i))) (hp : putO r.en i r.fr r.d = some en') : PS X st (tS G [i] en .nx en') :=
  ps_imp h fun D σ H hl ⟨W, e1, ok, rp, k⟩ => by
    subst e1
    obtain ⟨c1, rfl⟩ := putO_some hp
    refine ⟨W, rfl, ok, rp, fun v W1 st1 ok1 rp1 vl _ l1 => ?_⟩
    obtain ⟨W2, hh, ok2, st2, rp2⟩ := rp1.put ok1 ok st1 (canPut_lt c1) vl
    have := k _ W2 st2 ok2 rp2 (OnlyAt.set (by simp)) (by rw [hh]; exact l1)
    show LenOk _ W1.H → D.nx _ W1.H
    rw [← hh]
    exact fun _ => this
include hG in
theorem aug_ok {o : Operator} (h : augD o d e = some r) : ∃ rr, OpR X (inplaceOp o) rr ∧ Rd2 G rr d e r false := by
  have i0 : ∀ {g : Int → Int → V} {i j : Int} {r : D}, (∀ A U, Dat G A U r (g i j)) → Rd2 G (rI0 g) (.int i) (.int j) r false := fun hr W v u Q ok hl h1 h2 k =>
    ⟨_, _, h1.int, h2.int, k _ W (PStep.refl W) ok (hr _ _)⟩
  have i1 : ∀ {C : Int → Int → Prop} {g : Int → Int → V} {i j : Int} {r : D}, C i j → (∀ A U, Dat G A U r (g i j)) → Rd2 G (rI C g) (.int i) (.int j) r false := fun hc hr W v u Q ok hl h1 h2 k =>
    ⟨_, _, h1.int, h2.int, hc, k _ W (PStep.refl W) ok (hr _ _)⟩
  unfold augD at h
  split at h
  · cases h; exact ⟨_, iop_add, i0 fun _ _ => .int _⟩
  · split at h
    · cases h
      refine ⟨_, iop_add_str, fun W v u Q ok hl h1 h2 k => ⟨_, _, h1.str, h2.str, by rw [← lim_line]; assumption, k _ W (PStep.refl W) ok (Dat.str _)⟩⟩
    · cases h
  · cases h; exact ⟨_, iop_sub, i0 fun _ _ => .int _⟩
  · rename_i i j
    by_cases hz : mulOk i j
    · rw [if_pos hz] at h; cases h
      exact ⟨_, iop_mul, i1 hz fun _ _ => .int _⟩
    · rw [if_neg hz] at h; cases h
  · cases h
include hG in
/-- name op= e, the name shared -/
theorem s_aug {i : Nat} {x : Str} {e : Expr} {op : Operator} {pos pos' : Pos} {r : R} {rr : R2} {z : D} (hN : X.N.Nodup) (hi : X.N[i]? = some x) (hx : Loc X.env.scope x) (he : PE X e (tD G q en r))
    (ho : OpR X (inplaceOp op) rr) (hr : Rd2 G rr d r.d z false) (hf : X.fn x = true ∨ X.env.scope.names.lookup x = some .local)
    (hd : en.loc[i]? = some (.sh d)) (hp : putO r.en i false z = some en') : PS X (.AugAssign (.Name x pos') op e pos) (tS G [i] en .nx en') :=
  ps_imp (ps_aug (ti := rr) hN hi hx (d_share he) ho hf) fun D σ H hl ⟨W, e1, ok, rp, k⟩ => by
    subst e1
    obtain ⟨c1, rfl⟩ := putO_some hp
    rcases rp.loc hd with y | ⟨v, e1, p, e2⟩
    · cases y
    · refine ⟨v, e1, W, rfl, ok, rp, fun u W1 st1 ok1 rp1 vl _ l1 => ?_⟩
      have e2 : Dat G W.A W.U d v := e2
      have vl : Dat G W1.A W1.U r.d u := vl
      refine hr W1 v u _ ok1 l1 (.inl (e2.mono st1.U st1.A)) (.inl vl) fun z W2 ps ok2 vz => fun hl2 => ?_
      have := k _ W2 (st1.trans ok1 ps.S) ok2 ((rp1.pstep ps).setSh (canPut_lt c1) vz) (OnlyAt.set (by simp)) (by
        intro a xs hh
        exact hl2 a xs (by
          rw [← hG]; exact hh))
      exact this
include hG in
/-- o[k] op= e -/
theorem s_augi {o i e : Expr} {op : Operator} {pos tpos : Pos} {rr : R2} {ix : R2} {tset : TSet} {x : Pl} {r : R} {kv : AV} {k k2 d2 old z : D} (ho : PE X o (tArg G q1 en (.pl x) en1)) (hi : PE X i (tArg G q2 en1 kv en2))
    (hget : PGet X ix) (hgr : Rd2 G ix d k old false) (he : PE X e (tD G q3 en2 r)) (hop : OpR X (inplaceOp op) rr) (hrr : Rd2 G rr old r.d z false) (hset : PSet X tset) (hlaw : Slaw G tset d2 k2 z d')
    (hq : (AV.pl x).isF = true → q2 = true ∧ q3 = true) (hx0 : (en2.at x).dat = some d) (hk0 : kv.dat en2 = some k) (hkv : kv.isF = true → q3 = true)
    (hx : (r.en.at x).own = true) (hd : (r.en.at x).dat = some d2) (hk : kv.dat r.en = some k2)
    (ha : ∀ ov iv new, augStore i ov iv new = (do holding [new, ov, iv] (setItem ov iv new); release [new, ov, iv] []; pure .next)) :
    PS X (.AugAssign (.Subscript o i tpos) op e pos) (tS G [] en .nx (r.en.setP x ((r.en.at x).upd d'))) :=
  ps_imp (ps_augS (tip := rr) ho hi hget (d_share he) hop hset ha) fun D σ H hl ⟨W, e1, ok, rp, kk⟩ => by
    subst e1
    refine ⟨W, rfl, ok, rp, fun ov W1 st1 ok1 rp1 a1 qs1 l1 => ?_⟩
    refine ⟨W1, rfl, ok1, rp1, fun iv W2 st2 ok2 rp2 a2 qs2 l2 => ?_⟩
    have a1' : AvOk G W W2 σ (.pl x) ov := a1.step st2 fun z => qs2 (hq z).1
    refine hgr W2 ov iv _ ok2 l2 (a1'.top rp2 hx0) (a2.top rp2 hk0) fun ovv W3 ps3 ok3 vold => ?_
    refine ⟨W3, rfl, ok3, rp2.pstep ps3, fun nv W4 st4 ok4 rp4 vl qs4 l4 => ?_⟩
    have vold : Dat G W3.A W3.U old ovv := vold
    have vl : Dat G W4.A W4.U r.d nv := vl
    refine hrr W4 ovv nv _ ok4 l4 (.inl (vold.mono st4.U st4.A)) (.inl vl) fun nz W5 ps5 ok5 vz => ?_
    have vz : Dat G W5.A W5.U z nz := vz
    have a4 : AvOk G W W4 σ (.pl x) ov := (a1'.step ps3.S fun _ => ⟨ps3.H, ps3.A⟩).step st4 fun z => qs4 (hq z).2
    have a5 : AvOk G W W5 σ (.pl x) ov := a4.step ps5.S fun _ => ⟨ps5.H, ps5.A⟩
    have rp5 := rp4.pstep ps5
    obtain ⟨p, rfl, hO, hc, hm⟩ := rp5.mut ok5 hx a5 hd
    have b5 : AvOk G W1 W5 σ kv iv := ((a2.step ps3.S fun _ => ⟨ps3.H, ps3.A⟩).step st4 fun z => qs4 (hkv z)).step ps5.S fun _ => ⟨ps5.H, ps5.A⟩
    have st : Step W W5 := ((((st1.trans ok1 st2).trans ok2 ps3.S).trans ok3 st4).trans ok4 ps5.S)
    refine hlaw W5 p iv nz _ ok5 hO hc (b5.top rp5 hk) vz fun o' hc' => fun hl2 => ?_
    exact kk σ (W5.mut p o') (st.trans ok5 (mut_step hO)) (mut_ok ok5 hO) (hm d' o' hc') (OnlyAt.refl _ _) (by rw [hG]; exact hl2)
/-! ### x, y = a, b -/
/-- the new things are not the same -/
def FrD : List (D × Bool) → List V → Prop
  | p :: ds, v :: vs => (p.2 = true → ∀ (j : Nat) (d : D), ds[j]? = some (d, true) → vs[j]? ≠ some v) ∧ FrD ds vs
  | _, _ => True
def tPs (G : Gb) (en : Stt) (ds : List (D × Bool)) (en' : Stt) : TA := fun σ H Q => ∃ W : Wd, W.H = H ∧ W.Ok ∧ Rep G W σ en ∧
  ∀ vs W', Step W W' → W'.Ok → Rep G W' σ en' → Paired (fun p v => Val G W W' p.2 p.1 v) ds vs → FrD ds vs → LenOk G.K W'.H → Q vs W'.H
include hG in
theorem p_nil : PA X [] (tPs G en [] en) :=
  pa_imp (t := tNil) (pa_nil (X := X)) fun σ H Q hl ⟨W, e1, ok, rp, k⟩ => by
    subst e1
    exact fun hl1 => k [] W (Step.refl W) ok rp .nil trivial (by rw [hG]; exact hl1)
theorem paired_at {α β : Type} {R : α → β → Prop} : ∀ {as : List α} {bs : List β}, Paired R as bs → ∀ {j : Nat} {a : α} {b : β}, as[j]? = some a → bs[j]? = some b → R a b
  | _, _, .nil, j, a, b, h, _ => by simp at h
  | _, _, .cons r t, 0, a, b, h, k => by simp at h k; subst h k; exact r
  | _, _, .cons r t, j + 1, a, b, h, k => paired_at t (by simpa using h) (by simpa using k)
theorem paired_map {α β : Type} {R S : α → β → Prop} (f : ∀ a b, R a b → S a b) : ∀ {as : List α} {bs : List β}, Paired R as bs → Paired S as bs
  | _, _, .nil => .nil
  | _, _, .cons r t => .cons (f _ _ r) (paired_map f t)
theorem p_cons {e : Expr} {es : List Expr} {r : R} {ds : List (D × Bool)} (ha : PE X e (tD G q en r)) (hr : PA X es (tPs G r.en ds en'))
    (hs : starEach (e :: es) X.env = (false, eval e X.env) :: starEach es X.env) : PA X (e :: es) (tPs G en ((r.d, r.fr) :: ds) en') :=
  pa_imp (pa_cons ha hr hs) fun σ H Q hl ⟨W, e1, ok, rp, k⟩ => by
    subst e1
    refine ⟨W, rfl, ok, rp, fun v W1 st1 ok1 rp1 a1 qs1 l1 => ?_⟩
    refine ⟨W1, rfl, ok1, rp1, fun vs W2 st2 ok2 rp2 a2 fd l2 => fun _ => ?_⟩
    refine k _ W2 (st1.trans ok1 st2) ok2 rp2 (.cons (a1.step st2) (paired_map (fun p v h => h.back st1) a2)) ⟨fun hf j d hj hv => ?_, fd⟩ l2
    have hf : r.fr = true := hf
    rw [hf] at a1
    obtain ⟨p, e1, _, _, _, hc⟩ := a1
    obtain ⟨o, ho⟩ := hc.there
    have h2 := paired_at a2 hj hv
    obtain ⟨p', e2, hn, _⟩ := h2
    rw [e1] at e2; cases e2
    rw [hn] at ho; cases ho
def putF (en : Stt) : List Nat → List (D × Bool) → Option Stt
  | [], [] => some en
  | i :: is, p :: ds => match putO en i p.2 p.1 with
    | some en' => putF en' is ds
    | none => none
  | _, _ => none
def setL (σ : L2.St) : List Nat → List V → L2.St
  | i :: is, v :: vs => setL (σ.set i (some v)) is vs
  | _, _ => σ
theorem putF_ok : ∀ {is : List Nat} {ds : List (D × Bool)} {vs : List V} {W W0 : Wd} {σ : L2.St} {en en' : Stt}, W.Ok → W0.Ok → Step W0 W → Rep G W σ en → Paired (fun p v => Val G W0 W p.2 p.1 v) ds vs → FrD ds vs → putF en is ds = some en' →
    ∃ W', W'.H = W.H ∧ W'.Ok ∧ Step W0 W' ∧ Rep G W' (setL σ is vs) en' ∧ OnlyAt is σ (setL σ is vs) ∧ vs.length = is.length
  | [], [], vs, W, W0, σ, en, en', ok, ok0, st, rp, pd, fd, h => by
    cases pd; cases h
    exact ⟨W, rfl, ok, st, rp, OnlyAt.refl _ _, rfl⟩
  | i :: is, p :: ds, vs, W, W0, σ, en, en', ok, ok0, st, rp, pd, fd, h => by
    cases pd with
    | @cons _ v _ vs h1 h2 =>
      unfold putF at h
      cases hp : putO en i p.2 p.1 with
      | none => rw [hp] at h; cases h
      | some en1 =>
        rw [hp] at h
        obtain ⟨c1, rfl⟩ := putO_some hp
        have key : ∃ W', W'.H = W.H ∧ W'.Ok ∧ Step W0 W' ∧ Rep G W' (σ.set i (some v)) (Py.put en i p.2 p.1) ∧ Paired (fun p v => Val G W0 W' p.2 p.1 v) ds vs := by
          obtain ⟨dd, fr⟩ := p
          cases fr with
          | false => exact ⟨W, rfl, ok, st, rp.setSh (canPut_lt c1) h1, h2⟩
          | true =>
            obtain ⟨p, e, g1, g2, g3, g4⟩ := h1
            subst e
            refine ⟨W.adopt p, rfl, adopt_ok ok g2 g4.there, adopt_new st g1, rp.setOw (canPut_lt c1) g3 (fun z => ?_) g4, ?_⟩
            · rw [st.B] at z
              obtain ⟨o, q⟩ := ok0.bas p z
              rw [g1] at q; cases q
            · have fd1 := fd.1 rfl
              clear h fd hp c1
              have gen : ∀ {ds : List (D × Bool)} {vs : List V}, Paired (fun p v => Val G W0 W p.2 p.1 v) ds vs → (∀ (j : Nat) (d : D), ds[j]? = some (d, true) → vs[j]? ≠ some (.ref p)) → Paired (fun p' v => Val G W0 (W.adopt p) p'.2 p'.1 v) ds vs := by
                intro ds vs h
                induction h with
                | nil => intro _; exact .nil
                | @cons a b as bs r t ih =>
                  intro f
                  refine .cons ?_ (ih fun j d hj => f (j + 1) d (by simpa using hj))
                  obtain ⟨ad, af⟩ := a
                  cases af with
                  | false => exact r
                  | true =>
                    obtain ⟨p', e, k1, k2, k3, k4⟩ := r
                    refine ⟨p', e, k1, k2, fun z => ?_, by cases ad <;> exact k4⟩
                    rcases z with z | z
                    · exact k3 z
                    · subst z; exact f 0 ad rfl (by rw [e]; rfl)
              exact gen h2 fd1
        obtain ⟨W1, hh, ok1, st1, rp1, pd1⟩ := key
        obtain ⟨W2, z1, z2, z3, z4, z5, z6⟩ := putF_ok (is := is) ok1 ok0 st1 rp1 pd1 fd.2 h
        exact ⟨W2, z1.trans hh, z2, z3, z4, (OnlyAt.set (by simp)).trans (z5.mono fun i hi => List.mem_cons_of_mem _ hi), congrArg (· + 1) z6⟩
  | [], _ :: _, _, _, _, _, _, _, _, _, _, _, _, _, h => by simp [putF] at h
  | _ :: _, [], _, _, _, _, _, _, _, _, _, _, _, _, h => by simp [putF] at h
theorem par_core {is : List Nat} {st : Stmt} {es : List Expr} {ta : TA} {t : TS} {ds : List (D × Bool)} (h : PS X st t) (ht : ∀ D σ H, (tPs G en ds en1) σ H (fun vs H1 => vs.length = is.length ∧ D.nx (setL σ is vs) H1) → t D σ H)
    (hp : putF en1 is ds = some en') : PS X st (tS G is en .nx en') :=
  ps_imp h fun D σ H hl ⟨W, e1, ok, rp, k⟩ => ht _ _ _ (by
    subst e1
    refine ⟨W, rfl, ok, rp, fun vs W1 st1 ok1 rp1 pd fd l1 => ?_⟩
    obtain ⟨W2, hh, ok2, st2, rp2, oa, hl⟩ := putF_ok ok1 ok st1 rp1 pd fd hp
    refine ⟨hl, ?_⟩
    have := k _ W2 st2 ok2 rp2 oa (by rw [hh]; exact l1)
    show LenOk _ W1.H → D.nx _ W1.H
    rw [← hh]
    exact fun _ => this)
theorem s_par2 {i j : Nat} {x y : Str} {a b : Expr} {px py pt pos : Pos} {kt k2 pt2} {ds : List (D × Bool)} (hc : X.calm = true) (hN : X.N.Nodup) (hi : X.N[i]? = some x) (hj : X.N[j]? = some y) (hij : i ≠ j)
    (hx : X.env.scope.names.lookup x = some .local) (hy : X.env.scope.names.lookup y = some .local) (ha : PA X [a, b] (tPs G en ds en1))
    (hw : swappedStores [.Tuple [.Name x px, .Name y py] kt pt] (.Tuple [a, b] k2 pt2) X.env = pure (some [x, y]))
    (hs : swapsWithSole [.Tuple [.Name x px, .Name y py] kt pt] (.Tuple [a, b] k2 pt2) pos.line X.env = pure false) (hp : putF en1 [i, j] ds = some en') :
    PS X (.Assign [.Tuple [.Name x px, .Name y py] kt pt] (.Tuple [a, b] k2 pt2) pos) (tS G [i, j] en .nx en') :=
  par_core (es := []) (ta := tPs G en ds en1) (ps_par hc hN hi hj hij hx hy ha hw hs) (fun D σ H ⟨W, e1, ok, rp, k⟩ => ⟨W, e1, ok, rp, fun vs W1 st1 ok1 rp1 pd fd l1 => by
    obtain ⟨z1, z2⟩ := k vs W1 st1 ok1 rp1 pd fd l1
    match vs, z1 with
    | [v, w], _ => exact ⟨v, w, rfl, z2⟩⟩) hp
theorem s_par3 {i j l : Nat} {x y z : Str} {a b c : Expr} {px py pz pt pos : Pos} {kt k2 pt2} {ds : List (D × Bool)} (hc : X.calm = true) (hN : X.N.Nodup) (hi : X.N[i]? = some x) (hj : X.N[j]? = some y) (hl : X.N[l]? = some z) (hij : i ≠ j) (hil : i ≠ l) (hjl : j ≠ l)
    (hx : X.env.scope.names.lookup x = some .local) (hy : X.env.scope.names.lookup y = some .local) (hz : X.env.scope.names.lookup z = some .local) (ha : PA X [a, b, c] (tPs G en ds en1))
    (hw : swappedStores [.Tuple [.Name x px, .Name y py, .Name z pz] kt pt] (.Tuple [a, b, c] k2 pt2) X.env = pure (some [x, y, z]))
    (hs : swapsWithSole [.Tuple [.Name x px, .Name y py, .Name z pz] kt pt] (.Tuple [a, b, c] k2 pt2) pos.line X.env = pure false) (hp : putF en1 [i, j, l] ds = some en') :
    PS X (.Assign [.Tuple [.Name x px, .Name y py, .Name z pz] kt pt] (.Tuple [a, b, c] k2 pt2) pos) (tS G [i, j, l] en .nx en') :=
  par_core (es := []) (ta := tPs G en ds en1) (ps_par3 hc hN hi hj hl hij hil hjl hx hy hz ha hw hs) (fun D σ H ⟨W, e1, ok, rp, k⟩ => ⟨W, e1, ok, rp, fun vs W1 st1 ok1 rp1 pd fd l1 => by
    obtain ⟨z1, z2⟩ := k vs W1 st1 ok1 rp1 pd fd l1
    match vs, z1 with
    | [v, w, u], _ => exact ⟨v, w, u, rfl, z2⟩⟩) hp
end
end Py
/-! Dicts whose keys are ints and texts, as data. -/
namespace Py
open PySem PySem.Spec PyProof.Rows L2
def asKey : D → Option Key
  | .int i => some (.inl i)
  | .str x => some (.inr x)
  | _ => none
theorem asKey_kD (k : Key) : asKey (kD k) = some k := by cases k <;> rfl
theorem asKey_eq {d : D} {k : Key} (h : asKey d = some k) : d = kD k := by
  cases d <;> first | (cases h; rfl) | cases h
def keyEq (d : D) (k : Key) : Bool := match asKey d with
  | some j => decide (j = k)
  | none => false
theorem keyEq_kD (j k : Key) : keyEq (kD j) k = decide (j = k) := by unfold keyEq; rw [asKey_kD]
def lookD (k : Key) : List (D × D) → Option D
  | [] => none
  | p :: r => if keyEq p.1 k = true then some p.2 else lookD k r
def putD (kds : List (D × D)) (k : Key) (d : D) : List (D × D) :=
  if (kds.any fun p => keyEq p.1 k) = true then kds.map (fun p => if keyEq p.1 k = true then (p.1, d) else p) else kds ++ [(kD k, d)]
def asPairs : List D → Option (List (Key × D))
  | [] => some []
  | .tup [a, d] :: r => match asKey a, asPairs r with
    | some k, some ps => some ((k, d) :: ps)
    | _, _ => none
  | _ :: _ => none
def dictD (ps : List (Key × D)) : List (D × D) := ps.foldl (fun acc p => putD acc p.1 p.2) []
/-- no parts -/
def leafD : D → Bool
  | .non => true
  | .bl _ => true
  | .int _ => true
  | .str _ => true
  | _ => false
/-- a dict's data and its contents -/
inductive DK (G : Gb) (A : List Addr) (U : Hp) : List (D × D) → List (Key × V) → Prop
  | nil : DK G A U [] []
  | cons {k : Key} {d : D} {v : V} {kds : List (D × D)} {kvs : List (Key × V)} : Dat G A U d v → DK G A U kds kvs → DK G A U ((kD k, d) :: kds) ((k, v) :: kvs)
section
variable {G : Gb} {A : List Addr} {U : Hp} {W : Wd} {d : D} {v : V} {k : Key}
theorem DK.of : ∀ {kvs : List (Key × V)} {ds : List D}, DatL G A U ds (kvs.map (·.2)) → DK G A U ((kvs.map fun p => kD p.1).zip ds) kvs
  | [], _, h => by cases h; exact .nil
  | p :: kvs, _, h => by
    cases h with
    | cons a b => exact .cons a (DK.of b)
theorem DK.to : ∀ {kds : List (D × D)} {kvs : List (Key × V)}, DK G A U kds kvs → ∃ ds, kds = (kvs.map fun p => kD p.1).zip ds ∧ DatL G A U ds (kvs.map (·.2))
  | _, _, .nil => ⟨[], rfl, .nil⟩
  | _, _, .cons (k := k) (d := d) h t => by
    obtain ⟨ds, e, q⟩ := DK.to t
    exact ⟨d :: ds, by rw [e]; rfl, .cons h q⟩
theorem DK.look : ∀ {kds : List (D × D)} {kvs : List (Key × V)}, DK G A U kds kvs → (valV kvs k = none ∧ lookD k kds = none) ∨ ∃ v d, valV kvs k = some v ∧ lookD k kds = some d ∧ Dat G A U d v
  | _, _, .nil => .inl ⟨rfl, rfl⟩
  | _, _, .cons (k := j) (d := d) (v := v) h t => by
    by_cases e : j = k
    · exact .inr ⟨v, d, valV_pos (p := (j, v)) e, by unfold lookD; rw [if_pos (by rw [keyEq_kD, e]; exact decide_eq_true rfl)], h⟩
    · have e1 : ∀ {r : List (Key × V)}, valV ((j, v) :: r) k = valV r k := fun {r} => valV_neg (p := (j, v)) (r := r) e
      have e2 : ∀ {r : List (D × D)}, lookD k ((kD j, d) :: r) = lookD k r := fun {r} => by
        conv => lhs; unfold lookD
        rw [if_neg (by rw [keyEq_kD]; simpa using e)]
      rw [e1, e2]
      exact DK.look t
theorem DK.any : ∀ {kds : List (D × D)} {kvs : List (Key × V)}, DK G A U kds kvs → (kds.any fun p => keyEq p.1 k) = kvs.any fun kv => decide (kv.1 = k)
  | _, _, .nil => rfl
  | _, _, .cons h t => by
    rw [List.any_cons, List.any_cons, DK.any t, keyEq_kD]
theorem DK.repl (h : Dat G A U d v) : ∀ {kds : List (D × D)} {kvs : List (Key × V)}, DK G A U kds kvs → DK G A U (kds.map fun p => if keyEq p.1 k = true then (p.1, d) else p) (kvs.map fun kv => if kv.1 = k then (kv.1, v) else kv)
  | _, _, .nil => .nil
  | _, _, .cons (k := j) (d := e) (v := u) hh t => by
    rw [List.map_cons, List.map_cons]
    by_cases q : j = k
    · rw [if_pos (by rw [keyEq_kD]; simpa using q), if_pos (by simpa using q)]
      exact .cons h (DK.repl h t)
    · rw [if_neg (by rw [keyEq_kD]; simpa using q), if_neg (by simpa using q)]
      exact .cons hh (DK.repl h t)
theorem DK.snoc (h : Dat G A U d v) : ∀ {kds : List (D × D)} {kvs : List (Key × V)}, DK G A U kds kvs → DK G A U (kds ++ [(kD k, d)]) (kvs ++ [(k, v)])
  | _, _, .nil => .cons h .nil
  | _, _, .cons hh t => .cons hh (DK.snoc h t)
theorem DK.put {kds : List (D × D)} {kvs : List (Key × V)} (t : DK G A U kds kvs) (h : Dat G A U d v) : DK G A U (putD kds k d) (putK kvs k v) := by
  unfold putD putK
  rw [t.any]
  by_cases q : (kvs.any fun kv => decide (kv.1 = k)) = true
  · rw [if_pos q, if_pos q]
    exact DK.repl (k := k) h t
  · rw [if_neg q, if_neg q]
    exact DK.snoc h t
theorem DK.merge : ∀ {ps : List (Key × D)} {qs : List (Key × V)} {kds : List (D × D)} {kvs : List (Key × V)}, DK G A U (ps.map fun p => (kD p.1, p.2)) qs → DK G A U kds kvs → DK G A U (ps.foldl (fun acc p => putD acc p.1 p.2) kds) (mergeK kvs qs)
  | [], _, _, _, .nil, t => t
  | p :: ps, _, kds, kvs, h, t => by
    cases p with
    | mk k d =>
      cases h' : (kD k, d) with
      | mk a b =>
        generalize hq : ((k, d) :: ps).map (fun p => (kD p.1, p.2)) = l at h
        cases h with
        | nil => cases hq
        | @cons k2 d2 v2 kds2 kvs2 h1 h2 =>
          simp only [List.map_cons, List.cons.injEq, Prod.mk.injEq] at hq
          obtain ⟨⟨e1, e2⟩, e3⟩ := hq
          have ek : k = k2 := by
            have := congrArg asKey e1
            rw [asKey_kD, asKey_kD] at this
            exact Option.some.inj this
          subst ek; subst e2; subst e3
          show DK G A U (ps.foldl (fun acc p => putD acc p.1 p.2) (putD kds k d)) (mergeK (putK kvs k v2) kvs2)
          exact DK.merge (ps := ps) h2 (t.put h1)
/-- a dict that is there -/
theorem Top.dic {kds : List (D × D)} (ok : W.Ok) (h : Top G W (.dic kds) v) : ∃ a kvs, v = .ref a ∧ W.H a = some (.dK kvs) ∧ DK G W.A W.U kds kvs := by
  rcases h with h | ⟨p, e, h⟩
  · generalize hd : D.dic kds = d at h
    cases h <;> first | (cases hd; done) | skip
    rename_i a kvs ds h1 h2
    cases hd
    exact ⟨a, kvs, rfl, ok.subH _ _ h1, DK.of h2⟩
  · obtain ⟨kvs, ds, h1, h2, h3⟩ := h
    subst h2
    exact ⟨p, kvs, e, h1, DK.of h3⟩
/-- a new dict of nobody -/
theorem new_dic {p : Addr} {kds : List (D × D)} {kvs : List (Key × V)} (ok : W.Ok) (hp : W.H p = none) (h : DK G W.A W.U kds kvs) :
    ∃ W', W'.H = upd W.H p (.dK kvs) ∧ PStep W W' ∧ W'.Ok ∧ Val G W W' true (.dic kds) (.ref p) := by
  obtain ⟨ds, e, hd⟩ := h.to
  refine ⟨{ W with H := upd W.H p (.dK kvs) }, rfl, push_step hp, push_ok ok hp, p, rfl, hp, ?_, fun z => ?_, kvs, ds, upd_same, e, hd⟩
  · show W.U p = none
    cases e : W.U p with
    | none => rfl
    | some u => have := (ok.sub p u e).1; rw [hp] at this; cases this
  · obtain ⟨u, e⟩ := ok.own p z
    rw [hp] at e; cases e
/-- the pairs of a list of pairs -/
theorem pairs_dat (K : Gb) (ok : W.Ok) : ∀ {xs : List D} {ps : List (Key × D)} {vs : List V}, asPairs xs = some ps → DatL G W.A W.U xs vs → ∃ (as : List Addr) (kvs : List (Key × V)), vs = as.map V.ref ∧ Paired (fun p (kv : Key × V) => SqT G.K W.H p [kV kv.1, kv.2]) as kvs ∧ DK G W.A W.U (ps.map fun p => (kD p.1, p.2)) kvs := by
  intro xs
  induction xs with
  | nil => intro ps vs h d; cases h; cases d; exact ⟨[], [], rfl, .nil, .nil⟩
  | cons x xs ih =>
    intro ps vs h d
    unfold asPairs at h
    split at h
    · rename_i q1; cases q1
    · rename_i a d0 r q1
      cases q1
      split at h
      · rename_i k ps' hk hps
        cases h
        cases d with
        | cons d1 d2 =>
          obtain ⟨as, kvs, e1, e2, e3⟩ := ih hps d2
          have hka := asKey_eq hk
          subst hka
          cases d1 with
          | @tup ad vs' ds' s1 s2 =>
            cases s2 with
            | cons t1 t2 =>
              cases t2 with
              | cons u1 u2 =>
                cases u2
                rename_i v1 v2
                have hv1 : v1 = kV k := by
                  cases k with
                  | inl i => cases t1; rfl
                  | inr x => cases t1; rfl
                subst hv1
                exact ⟨ad :: as, (k, v2) :: kvs, by rw [e1]; rfl, .cons (ok.subH.sqt s1) e2, .cons u1 e3⟩
      · cases h
    · cases h
end
end Py
/-! Sets whose members are of one kind of key (texts, ints): filled from a list, sorted. -/
namespace Py
open PySem PySem.Spec PyProof.Rows L2
theorem paired_perm {α β : Type} {R : α → β → Prop} {l l' : List β} (p : l'.Perm l) : ∀ {ks : List α}, Paired R ks l → ∃ ks', ks'.Perm ks ∧ Paired R ks' l' := by
  induction p with
  | nil => intro ks h; exact ⟨ks, .refl _, h⟩
  | cons x _ ih =>
    intro ks h
    cases h with
    | cons a b => obtain ⟨ks', p', q⟩ := ih b; exact ⟨_ :: ks', p'.cons _, .cons a q⟩
  | swap x y l =>
    intro ks h
    cases h with
    | cons a b =>
      cases b with
      | cons c d => exact ⟨_, .swap _ _ _, .cons c (.cons a d)⟩
  | trans p1 p2 ih1 ih2 =>
    intro ks h
    obtain ⟨k1, p, h1⟩ := ih2 h
    obtain ⟨k2, p', h2⟩ := ih1 h1
    exact ⟨k2, p'.trans p, h2⟩
theorem paired_snoc {α β : Type} {R : α → β → Prop} {x : α} {y : β} (r : R x y) : ∀ {xs : List α} {ys : List β}, Paired R xs ys → Paired R (xs ++ [x]) (ys ++ [y])
  | _, _, .nil => .cons r .nil
  | _, _, .cons a b => .cons a (paired_snoc r b)
theorem paired_memR {α β : Type} {R : α → β → Prop} : ∀ {xs : List α} {ys : List β}, Paired R xs ys → ∀ y ∈ ys, ∃ x ∈ xs, R x y
  | _, _, .nil, y, h => nomatch h
  | _, _, .cons a b, y, h => by
    rcases List.mem_cons.mp h with z | z
    · subst z; exact ⟨_, List.mem_cons_self, a⟩
    · obtain ⟨x, p, q⟩ := paired_memR b y z; exact ⟨x, List.mem_cons_of_mem _ p, q⟩
theorem paired_memL {α β : Type} {R : α → β → Prop} : ∀ {xs : List α} {ys : List β}, Paired R xs ys → ∀ x ∈ xs, ∃ y ∈ ys, R x y
  | _, _, .nil, y, h => nomatch h
  | _, _, .cons a b, y, h => by
    rcases List.mem_cons.mp h with z | z
    · subst z; exact ⟨_, List.mem_cons_self, a⟩
    · obtain ⟨x, p, q⟩ := paired_memL b y z; exact ⟨x, List.mem_cons_of_mem _ p, q⟩
theorem paired_len {α β : Type} {R : α → β → Prop} : ∀ {xs : List α} {ys : List β}, Paired R xs ys → xs.length = ys.length
  | _, _, .nil => rfl
  | _, _, .cons _ b => congrArg (· + 1) (paired_len b)
section
variable {P : Program} {w : World} {K : Type} [DecidableEq K] (knd : KeyKind P w K)
def IsK (k : K) (e : Int × Value) : Prop := knd.is k e.2 = true ∧ e.1 = knd.hash k ∧ e.2.scannable = true
/-- the set at a: its members ks, in some order -/
def SetG (h : Heap) (a : Addr) (ks : List K) : Prop :=
  ∃ o es ep t ks', ks'.Perm ks ∧ h.get? a = some o ∧ o.ExactSet ∧ o.data = .set es ep t ∧ Paired (IsK knd) ks' es.toList ∧ ks.Nodup ∧ es.size < scanBound ∧ t.fits es.size = true ∧ Ris t.place.toList ∧ (w.params.followText "set-order" = true ∨ t.led = true)
variable {knd} {A : Around} {E : Value → Shared → Prop} {s : Shared} {a : Addr} {ks : List K}
theorem SetG.at {h h' : Heap} (R : SetG knd h a ks) (k : ∀ o, h.get? a = some o → h'.get? a = some o) : SetG knd h' a ks := by
  obtain ⟨o, es, ep, t, ks', p, ho, r⟩ := R
  exact ⟨o, es, ep, t, ks', p, k o ho, r⟩
theorem IsK.elems {ks : List K} {l : List (Int × Value)} (h : Paired (IsK knd) ks l) : ElemsOf knd l := fun e he => by
  obtain ⟨k, _, h1, h2, h3⟩ := paired_memR h e he
  exact ⟨⟨k, h1, h2⟩, h3⟩
theorem IsK.find {ks : List K} {l : List (Int × Value)} {k : K} (h : Paired (IsK knd) ks l) : k ∈ ks ↔ ∃ e ∈ l, knd.is k e.2 = true := by
  constructor
  · intro hk
    obtain ⟨e, he, h1, _⟩ := paired_memL h k hk
    exact ⟨e, he, h1⟩
  · rintro ⟨e, he, q⟩
    obtain ⟨k', hk', h1, _⟩ := paired_memR h e he
    exact knd.inj _ _ _ h1 q ▸ hk'
theorem IsK.size {ks ks' : List K} {es : Array (Int × Value)} (h : Paired (IsK knd) ks' es.toList) (p : ks'.Perm ks) : es.size = ks.length := by
  rw [← p.length_eq, paired_len h, Array.length_toList]
theorem setG_tail {g : Bool → Sem Unit} (hg : ∀ (b : Bool) (s₁ : Shared) (Q' : Unit → Shared → Prop), Q' () s₁ → wpAny (model P w) A (g b) Q' E s₁)
    {o : Obj} {es : Array (Int × Value)} {ep : Nat} {t : SetTable} (ho : s.heap.get? a = some o) (hex : o.ExactSet) (hd : o.data = .set es ep t)
    {es1 : Array (Int × Value)} {t2 : SetTable} {ks1 : List K} (g1 : Paired (IsK knd) ks1 es1.toList) (pk : ks1.Perm ks) (nd1 : ks.Nodup)
    (hb1 : es1.size < scanBound) (hf2 : t2.fits es1.size = true) (hr : Ris t2.place.toList) (hl : w.params.followText "set-order" = true ∨ t2.led = true) {wasDummy : Bool} {R : Option Bool → Shared → Prop}
    (hR : ∀ h', Heap.SameBut a s.heap h' → SetG knd h' a ks → R (some true) { s with heap := h' }) :
    wpAny (model P w) A (do
        storeSet a es1 t2
        if (!wasDummy && t2.tooFull) = true then do
            g (relayAll t2 es1 (SetTable.grown es1.size)).2.2
            storeSet a (relayAll t2 es1 (SetTable.grown es1.size)).1 (relayAll t2 es1 (SetTable.grown es1.size)).2.1
            pure (some true)
          else pure (some true)) R E s := by
  refine wpAny_bind (wpAny_storeSet_of ho hd ?_ (fits_of_scanBound hb1))
  have ho1 := store_at (es' := es1) (t' := t2) ho hd
  have sb1 := Heap.SameBut.update s.heap a (Obj.putSet es1 t2)
  split
  · have pm := relayAll_perm t2 es1 (SetTable.grown es1.size)
    have hf3 := relayAll_fits t2 es1 (SetTable.grown es1.size)
    have hr3 := relayAll_ris t2 es1 (SetTable.grown es1.size)
    have hl3 := relayAll_led t2 es1 (SetTable.grown es1.size)
    generalize relayAll t2 es1 (SetTable.grown es1.size) = Z at pm hf3 hr3 hl3 ⊢
    obtain ⟨es2, t3, gave⟩ := Z
    dsimp only at pm hf3 hr3 hl3 ⊢
    have hb2 : es2.size < scanBound := by rw [← Array.length_toList, pm.length_eq, Array.length_toList]; exact hb1
    refine wpAny_bind (hg _ _ _ ?_)
    refine wpAny_bind (wpAny_storeSet_of ho1 rfl ?_ (fits_of_scanBound hb2))
    have ho2 := store_at (es' := es2) (t' := t3) ho1 rfl
    obtain ⟨ks2, p2, q2⟩ := paired_perm pm g1
    refine wpAny_pure (hR _ (sb1.trans (Heap.SameBut.update _ a _)) ?_)
    exact ⟨_, es2, _, t3, ks2, p2.trans pk, ho2, hex, rfl, q2, nd1, hb2, hf3, hr3, hl.imp id fun z => by rw [hl3]; exact z⟩
  · exact wpAny_pure (hR _ sb1 ⟨_, es1, _, t2, ks1, pk, ho1, hex, rfl, g1, nd1, hb1, hf2, hr, hl⟩)
/-- k added -/
theorem setG_add {k : K} {v : Value} {Q : Bool → Shared → Prop} (hkey : knd.is k v = true) (hsc : v.scannable = true) (R : SetG knd s.heap a ks) (room : ks.length + 1 < scanBound)
    (hQ : ∀ b h', Heap.SameBut a s.heap h' → SetG knd h' a (if k ∈ ks then ks else k :: ks) → Q b { s with heap := h' }) :
    wpAny (model P w) A (setAddHashed a v (knd.hash k)) Q E s := by
  obtain ⟨o, es, ep, t, ks0, pk0, ho, hex, hd, g, nd, hb, hf, hr, hl⟩ := R
  have hel : ElemsOf knd es.toList := IsK.elems g
  have hn : es.size = ks.length := IsK.size g pk0
  unfold setAddHashed setAddHashedIn
  refine wpAny_holding (wpAny_bind (wpAny_setState_of ho hd hf ?_))
  dsimp only
  rw [byScan_of hsc hb hel]
  simp only [↓reduceIte]
  unfold setAddByScan
  refine wpAny_bind ?_
  refine wpAny_bind (wpAny_rule ?_)
  refine wpAny_bind (wpAny_setScan_of hkey ho hd hf hel ?_)
  cases hfi : List.findIdx? (fun e => knd.is k e.2) es.toList with
  | some j =>
    dsimp only
    obtain ⟨hj, pj, _⟩ := List.findIdx?_eq_some_iff_getElem.mp hfi
    have hk : k ∈ ks := pk0.mem_iff.mp ((IsK.find g).2 ⟨es.toList[j], List.getElem_mem hj, pj⟩)
    refine wpAny_pure (wpAny_pure ?_)
    exact hQ _ s.heap (Heap.SameBut.refl a s.heap) (by rw [if_pos hk]; exact ⟨o, es, ep, t, ks0, pk0, ho, hex, hd, g, nd, hb, hf, hr, hl⟩)
  | none =>
    dsimp only
    have hk : k ∉ ks := fun z => by
      obtain ⟨e, he, q⟩ := (IsK.find g).1 (pk0.mem_iff.mpr z)
      have c := List.findIdx?_eq_none_iff.mp hfi e he
      rw [q] at c
      cases c
    have hgw : ∀ (b : Bool) {s₁ : Shared} {Q' : Unit → Shared → Prop}, Q' () s₁ → wpAny (model P w) A (match b with | true => rule "set.scan.the-table-gave-way" | false => pure ()) Q' E s₁ :=
      fun b s₁ Q' q => by cases b <;> first | exact wpAny_pure q | exact wpAny_rule q
    have pm := layNew_perm t es (knd.hash k) v
    have hf1 := layNew_fits t es (knd.hash k) v
    have hr1 := layNew_ris t es (knd.hash k) v hr
    have hl1 := layNew_led t es (knd.hash k) v
    generalize layNew t es (knd.hash k) v = Z at pm hf1 hr1 hl1 ⊢
    obtain ⟨es1, t1, wasDummy, gave⟩ := Z
    dsimp only at pm hf1 hr1 hl1 ⊢
    rw [Array.toList_push] at pm
    have new : IsK knd k (knd.hash k, v) := ⟨hkey, rfl, hsc⟩
    obtain ⟨ks1, pk1, g1⟩ := paired_perm pm (paired_snoc new g)
    have pk : ks1.Perm (k :: ks) := (pk1.trans (List.perm_append_singleton _ _)).trans (pk0.cons _)
    have nd1 : (k :: ks).Nodup := List.nodup_cons.mpr ⟨hk, nd⟩
    have hsz : es1.size = ks.length + 1 := IsK.size g1 pk
    have hb1 : es1.size < scanBound := by rw [hsz]; exact room
    have hled : w.params.followText "set-order" = true ∨ t1.led = true := hl.imp id fun z => by rw [hl1]; exact z
    have fin : ∀ b h', Heap.SameBut a s.heap h' → SetG knd h' a (k :: ks) → Q b { s with heap := h' } := fun b h' sb r => hQ b h' sb (by rw [if_neg hk]; exact r)
    refine wpAny_bind (hgw _ ?_)
    split
    · refine wpAny_bind ?_
      rw [hashByValue_scannable 8 hsc]
      refine wpAny_pure ?_
      refine setG_tail (ks1 := ks1) (ks := k :: ks) ?_ ho hex hd g1 pk nd1 hb1 ?_ ?_ ?_ ?_
      · intro b s₁ Q' q; cases b <;> first | exact wpAny_pure q | exact wpAny_rule q
      · first | (split <;> first | exact hf1 | exact SetTable.fits_plain_off hf1) | exact hf1
      · first | (split <;> exact hr1) | exact hr1
      · first | (split <;> exact hled) | exact hled
      · intro h' sb r; dsimp only; exact wpAny_pure (fin _ h' sb r)
    · refine wpAny_bind (wpAny_pure ?_)
      simp only [↓reduceIte]
      refine setG_tail (ks1 := ks1) (ks := k :: ks) ?_ ho hex hd g1 pk nd1 hb1 hf1 hr1 hled ?_
      · intro b s₁ Q' q; cases b <;> first | exact wpAny_pure q | exact wpAny_rule q
      · intro h' sb r; dsimp only; exact wpAny_pure (fin _ h' sb r)
end
end Py
/-! set(xs), sorted(set): members of one kind of key. -/
namespace Py
open PySem PySem.Spec PyProof.Rows L2
def addK {K : Type} [DecidableEq K] (ks : List K) (k : K) : List K := if k ∈ ks then ks else k :: ks
def seenK {K : Type} [DecidableEq K] (l : List K) : List K := l.foldl addK []
theorem seen_snoc {K : Type} [DecidableEq K] (l : List K) (k : K) : seenK (l ++ [k]) = addK (seenK l) k := by simp [seenK]
theorem addK_mem {K : Type} [DecidableEq K] {ks : List K} {k x : K} : x ∈ addK ks k ↔ x ∈ ks ∨ x = k := by
  unfold addK
  split
  · constructor
    · exact .inl
    · rintro (h | h)
      · exact h
      · subst h; assumption
  · rw [List.mem_cons]; exact Or.comm
theorem addK_nodup {K : Type} [DecidableEq K] {ks : List K} {k : K} (h : ks.Nodup) : (addK ks k).Nodup := by
  unfold addK
  split
  · exact h
  · exact List.nodup_cons.mpr ⟨by assumption, h⟩
theorem foldl_mem {K : Type} [DecidableEq K] : ∀ (l ks : List K) (x : K), x ∈ l.foldl addK ks ↔ x ∈ ks ∨ x ∈ l
  | [], ks, x => by simp
  | k :: l, ks, x => by
    rw [List.foldl_cons, foldl_mem l, addK_mem, List.mem_cons]
    constructor
    · rintro ((h | h) | h)
      · exact .inl h
      · exact .inr (.inl h)
      · exact .inr (.inr h)
    · rintro (h | h | h)
      · exact .inl (.inl h)
      · exact .inl (.inr h)
      · exact .inr h
theorem foldl_nodup {K : Type} [DecidableEq K] : ∀ (l ks : List K), ks.Nodup → (l.foldl addK ks).Nodup
  | [], ks, h => h
  | k :: l, ks, h => by rw [List.foldl_cons]; exact foldl_nodup l _ (addK_nodup h)
theorem foldl_len {K : Type} [DecidableEq K] : ∀ (l ks : List K), (l.foldl addK ks).length ≤ ks.length + l.length
  | [], ks => by simp
  | k :: l, ks => by
    rw [List.foldl_cons]
    refine Nat.le_trans (foldl_len l _) ?_
    have : (addK ks k).length ≤ ks.length + 1 := by unfold addK; split <;> simp
    rw [List.length_cons]; omega
theorem seen_mem {K : Type} [DecidableEq K] {l : List K} {x : K} : x ∈ seenK l ↔ x ∈ l := by unfold seenK; rw [foldl_mem]; simp
theorem seen_nodup {K : Type} [DecidableEq K] (l : List K) : (seenK l).Nodup := foldl_nodup l [] List.nodup_nil
theorem seen_len {K : Type} [DecidableEq K] (l : List K) : (seenK l).length ≤ l.length := by have := foldl_len l []; simpa [seenK] using this
section
variable {P : Program} {w : World} {K : Type} [DecidableEq K] {knd : KeyKind P w K} {A : Around} {E : Value → Shared → Prop} {s : Shared} {a : Addr} {ks : List K}
theorem setG_new {h : Heap} {a : Addr} (ho : h.get? a = some { cls := .type "set", dict := none, data := .set #[] 0 (.fresh 0 0 (!w.params.followText "set-order")) }) : SetG knd h a ([] : List K) :=
  ⟨_, #[], 0, _, [], .refl _, ho, ⟨rfl, rfl, rfl⟩, rfl, .nil, List.nodup_nil, (by decide), (by rfl), List.Pairwise.nil, by
    show _ ∨ (!w.params.followText "set-order") = true
    cases w.params.followText "set-order"
    · exact .inr rfl
    · exact .inl rfl⟩
theorem set_fill {I : Addr} {fp wr : List Addr} {G : Array GenState → Array GenState → Prop} {n : Nat} {Pv : Nat → Value → Prop} {St : Nat → Shared → Prop} {R : Result → Shared → Prop}
    (W : WalksS P w A.in1 I fp wr G n Pv St) (S : Addr) (hSf : S ∉ fp) (ns : List K) (hn : n = ns.length) (hb : ns.length + 1 < scanBound) (hval : ∀ i v, Pv i v → ∃ k, ns[i]? = some k ∧ knd.is k v = true ∧ v.scannable = true) :
    ∀ (k i : Nat) (s : Shared), n - i = k → i ≤ n → St i s → SetG knd s.heap S (seenK (ns.take i)) →
      (∀ s', Moved (S :: wr) G s s' → SetG knd s'.heap S (seenK ns) → R (.ok (.ret .none)) s') →
      codeAny (model P w) A (.builtin "set.update.loop" ⟨[.ref S, .ref I], []⟩) R s := by
  have hSw : S ∉ wr := fun h => hSf (W.sub _ h)
  have hsub : ∀ b ∈ wr, b ∈ S :: wr := fun b hb => List.mem_cons_of_mem _ hb
  intro k
  induction k with
  | zero =>
    intro i s hk' hi hst hS hR
    have hin : i = n := by omega
    subst hin
    refine codeAny_builtin F.entry_set_update_loop ?_
    rw [Around.under_plainId F.plain_set_update_loop _]
    show wpAny _ A.in1 (pyNext (.ref I) >>= _) _ _ s
    refine wpAny_bind (W.done s _ _ hst fun s' hm => ?_)
    show wpAny _ A.in1 (ret Value.none) _ _ s'
    have e : ns.take i = ns := List.take_of_length_le (by omega)
    rw [e] at hS
    exact wpAny_pure (hR s' (hm.mono hsub) (hS.at fun o e => hm.heap S o hSw e))
  | succ k ih =>
    intro i s hk' hi hst hS hR
    have hlt : i < n := by omega
    refine codeAny_builtin F.entry_set_update_loop ?_
    rw [Around.under_plainId F.plain_set_update_loop _]
    show wpAny _ A.in1 (pyNext (.ref I) >>= _) _ _ s
    refine wpAny_bind (W.item i s _ _ hlt hst fun v s' hP hst' hm => ?_)
    obtain ⟨z, hz, hk, hsc⟩ := hval i v hP
    have hS' : SetG knd s'.heap S (seenK (ns.take i)) := hS.at fun o e => hm.heap S o hSw e
    show wpAny _ A.in1 (holding [v] (setAdd S v) >>= _) _ _ s'
    refine wpAny_bind (wpAny_holding ?_)
    unfold setAdd
    refine wpAny_holding ?_
    refine wpAny_bind (knd.pyHash (k := z) hk ?_)
    have hlen : (seenK (ns.take i)).length + 1 < scanBound := by
      have h1 := seen_len (ns.take i)
      have h2 : (ns.take i).length ≤ ns.length := by rw [List.length_take]; exact Nat.min_le_right _ _
      omega
    refine setG_add (s := { s' with toks := s'.toks + 1 }) hk hsc hS' hlen fun _ h' hsb hS2 => ?_
    have hS3 : SetG knd h' S (seenK (ns.take (i + 1))) := by
      rw [List.take_add_one, hz]
      show SetG knd h' S (seenK (ns.take i ++ [z]))
      rw [seen_snoc]; exact hS2
    refine wpAny_pure ⟨plainId_quiet F.plain_set_update_loop _, ih (i + 1) _ (by omega) hlt (W.frame _ s' _ _ hst' (Nat.le_succ _) fun b hb o e => ?_) hS3 fun s'' hm'' hS'' => ?_⟩
    · rw [hsb.2 b (fun h : b = S => hSf (by rw [← h]; exact hb))]; exact e
    · refine hR s'' (Moved.trans W.gtrans ((hm.mono hsub).then_heap (Nat.le_succ _) fun b o hb e => ?_) hm'') hS''
      rw [hsb.2 b (fun h : b = S => hb (by rw [h]; exact List.mem_cons_self))]; exact e

set_option maxRecDepth 100000 in
set_option maxHeartbeats 3200000 in
/-- set(v), v walked by an iterator that it gives -/
theorem call_set_any {v : Value} {T : String} (ns : List K) {Q : Value → Shared → Prop} (hh : A.handled = none)
    (hTv : ∀ o, Shared.TypeIs { s with heap := s.heap.push o } v T) (hsls : isSubtype (.type T) (.type "set") = pure false) (hslf : isSubtype (.type T) (.type "frozenset") = pure false) (hne : (Value.type T == Value.type "dict") = false)
    (hit : ∀ (A' : Around) (E' : Value → Shared → Prop) (o : Obj) (Q' : Value → Shared → Prop), A'.handled = none → (∀ (I : Addr) (fp wr : List Addr) (n : Nat) (Pv : Nat → Value → Prop) (St : Nat → Heap → Prop) (h2 : Heap), (∀ A'' : Around, A''.handled = none → Walks P w A'' I fp wr n Pv St) → St 0 h2 → s.heap.objs.size ∉ fp → n = ns.length →
        (∀ (i : Nat) (v : Value), Pv i v → ∃ k, ns[i]? = some k ∧ knd.is k v = true ∧ v.scannable = true) → (∀ b o', (s.heap.push o).get? b = some o' → h2.get? b = some o') → (∀ b ∈ wr, s.heap.objs.size < b) →
        Q' (.ref I) { s with heap := h2 }) → wpAny (model P w) A' (pyIter v) Q' E' { s with heap := s.heap.push o }) (hb : ns.length + 1 < scanBound)
    (h : ∀ (h' : Heap) (tk : Nat), SetG knd h' s.heap.objs.size (seenK ns) → (∀ b o, s.heap.get? b = some o → h'.get? b = some o) → Q (.ref s.heap.objs.size) { s with heap := h', toks := tk }) :
    wpAny (model P w) A (call (.type "set") [v]) Q E s := by
  obtain ⟨c, tl, hmro⟩ := F.called_set.mro
  have hmade := F.called_set.made
  have hsub := F.called_set.sub
  refine wpAny_call (codeAny_of_tree ?_)
  show wpAny _ _ (callAny (.type "set") _) _ _ _
  refine wpAny_pure ⟨Code.quiet_builtin _ (by decide +kernel), codeAny_builtin F.entry_type_call ?_⟩
  rw [Around.under_plain (weight_type_call_type "set" [v] []) rfl]
  have h1 := F.called_set.notType
  have h2 := F.called_set.canCreate
  have hct := F.typeCall_set_1 v
  repeat (any_goals (first | assumption | wp_step))

  refine codeAny_mono (code_set_led1 v (E := E) (Q₁ := fun obj s₁ => obj = .ref s.heap.objs.size ∧ s₁ = { s with heap := s.heap.push { cls := .type "set", dict := none, data := .set #[] 0 (.fresh 0 0 (!w.params.followText "set-order")) } }) ⟨rfl, rfl⟩) fun r s₁ hr => ?_
  cases r with
  | error e => exact hr
  | ok fl =>
    cases fl with
    | ret obj =>
      obtain ⟨rfl, rfl⟩ := hr
      have hS : (s.heap.push { cls := .type "set", dict := none, data := .set #[] 0 (.fresh 0 0 (!w.params.followText "set-order")) }).get? s.heap.objs.size = some { cls := .type "set", dict := none, data := .set #[] 0 (.fresh 0 0 (!w.params.followText "set-order")) } := Heap.get?_push_size _ rfl
      have hT : Shared.TypeIs { s with heap := s.heap.push { cls := .type "set", dict := none, data := .set #[] 0 (.fresh 0 0 (!w.params.followText "set-order")) } } (.ref s.heap.objs.size) "set" := ⟨_, hS, rfl⟩
      have hli := F.called_set.init.lookup
      have hbi := F.called_set.init.bind (.ref s.heap.objs.size)
      repeat (any_goals (first | assumption | wp_step))

      refine codeAny_mono (codeAny_call_builtin (R := wants (fun r s₂ => r = .none ∧ ∃ h' tk, s₂ = { s with heap := h', toks := tk } ∧ SetG knd h' s.heap.objs.size (seenK ns) ∧
          (∀ b o, s.heap.get? b = some o → h'.get? b = some o)) E) F.called_set.init.plain F.entry_set_init (check_set_init_1 hT ?_)) fun r₂ s₂ hr₂ => ?_
      · have hTv' := hTv { cls := .type "set", dict := none, data := .set #[] 0 (.fresh 0 0 (!w.params.followText "set-order")) }
        have hit' := fun A' E' => hit A' E' { cls := .type "set", dict := none, data := .set #[] 0 (.fresh 0 0 (!w.params.followText "set-order")) }
        clear hit hTv
        unfold Builtin.«set.__init__» noKeywords Builtin.Frozenset.updateFrom
        generalize hPI : pyIter = PI
        wp_walk
        subst hPI
        have hh3 : A.in1.in1.in1.handled = none := by simp [hh]
        have hh2 : A.in1.in1.handled = none := by simp [hh]
        refine hit' _ _ _ hh2 fun I fp wr n Pv St h2 W hst hSf hn hval hk hwr => ?_
        refine wpAny_bind (wpAny_runValue ?_)
        have hS2 := hk _ _ hS
        refine set_fill (W _ hh3).toS s.heap.objs.size hSf ns hn hb hval (n - 0) 0 { s with heap := h2 } (by omega) (Nat.zero_le _) hst (setG_new hS2) fun s' hm hS' => ?_
        obtain ⟨h', g2, d', tk', os'⟩ := s'
        have eg : g2 = s.gens := hm.gens
        have ed : d' = s.drawn := hm.drawn
        have eo : os' = s.os := hm.os
        subst eg; subst ed; subst eo
        show wpAny _ _ _ _ _ _
        refine wpAny_pure ?_
        show wpAny _ _ (ret Value.none) _ _ _
        refine wpAny_pure ⟨rfl, h', tk', rfl, hS', fun b o e => ?_⟩
        have hb0 : b < s.heap.objs.size := Heap.lt_size e
        refine hm.heap b o (fun z => ?_) (hk b o (Heap.get?_push_of_some _ e))
        rcases List.mem_cons.mp z with z | z
        · exact Nat.lt_irrefl _ (z ▸ hb0)
        · exact Nat.lt_asymm hb0 (hwr b z)
      · cases r₂ with
        | error e => exact hr₂
        | ok fl₂ =>
          cases fl₂ with
          | ret r =>
            obtain ⟨rfl, h', tk, rfl, hS', hk'⟩ := hr₂
            repeat (any_goals (first | assumption | wp_step))
            exact h _ _ hS' hk'
          | _ => exact hr₂.elim
    | _ => exact hr.elim

theorem call_set_list {l : Addr} {items : Array Value} (ns : List K) {Q : Value → Shared → Prop} (hh : A.handled = none) (hl : s.heap.IsList l items) (hn : items.size = ns.length)
    (hval : ∀ (i : Nat) (v : Value), items[i]? = some v → ∃ k, ns[i]? = some k ∧ knd.is k v = true ∧ v.scannable = true) (hb : ns.length + 1 < scanBound)
    (h : ∀ (h' : Heap) (tk : Nat), SetG knd h' s.heap.objs.size (seenK ns) → (∀ b o, s.heap.get? b = some o → h'.get? b = some o) → Q (.ref s.heap.objs.size) { s with heap := h', toks := tk }) :
    wpAny (model P w) A (call (.type "set") [.ref l]) Q E s := by
  have hlS : l < s.heap.objs.size := by obtain ⟨o, ho, _⟩ := hl; exact Heap.lt_size ho
  refine call_set_any ns hh (fun o => (hl.push o).typeIs) F.sub_list_set F.sub_list_frozenset (by decide) (fun A' E' o Q' hA k => ?_) hb h
  have hl1 := hl.push o
  have hz : (s.heap.push o).objs.size = s.heap.objs.size + 1 := Heap.size_push ..
  refine wpAny_pyIter_list hl1 (k _ _ _ _ _ _ _ (fun A'' h'' => Walks.list h'' (s.heap.push o).objs.size l (by rw [hz]; exact Nat.ne_of_lt (Nat.lt_succ_of_lt hlS)) items) ⟨⟨_, Heap.get?_push_size _ rfl, rfl, rfl⟩, hl1.push _⟩ ?_ hn hval (fun b o' e => Heap.get?_push_of_some _ e) ?_)
  · rw [hz]
    simp only [List.mem_cons, List.mem_singleton, List.not_mem_nil, or_false, not_or]
    exact ⟨Nat.ne_of_lt (Nat.lt_succ_self _), Nat.ne_of_gt hlS⟩
  · intro b hb'
    rw [List.mem_singleton.mp hb', hz]; exact Nat.lt_succ_self _
theorem call_set_str {x : Str} {t : Tok} (ns : List K) {Q : Value → Shared → Prop} (hh : A.handled = none) (hn : x.cps.size = ns.length) (hval : ∀ (i : Nat) (v : Value), SignAt x i v → ∃ k, ns[i]? = some k ∧ knd.is k v = true ∧ v.scannable = true)
    (hb : ns.length + 1 < scanBound)
    (h : ∀ (h' : Heap) (tk : Nat), SetG knd h' s.heap.objs.size (seenK ns) → (∀ b o, s.heap.get? b = some o → h'.get? b = some o) → Q (.ref s.heap.objs.size) { s with heap := h', toks := tk }) :
    wpAny (model P w) A (call (.type "set") [.str x t]) Q E s := by
  refine call_set_any ns hh (fun o => rfl) F.sub_str_set F.sub_str_frozenset (by decide) (fun A' E' o Q' hA k => ?_) hb h
  have hz : (s.heap.push o).objs.size = s.heap.objs.size + 1 := Heap.size_push ..
  refine wpAny_pyIter_str fun ob St hW hst => ?_
  refine k _ _ _ _ _ _ _ (fun A'' h'' => hW A'' h'') hst ?_ hn hval (fun b o' e => Heap.get?_push_of_some _ e) ?_
  · rw [hz]
    simp only [List.mem_cons, List.mem_singleton, List.not_mem_nil, or_false, not_or]
    exact Nat.ne_of_lt (Nat.lt_succ_self _)
  · intro b hb'
    rw [List.mem_singleton.mp hb', hz]; exact Nat.lt_succ_self _
end
end Py
/-! set(xs) and sorted(set) by values. -/
namespace Py
open PySem PySem.Spec PyProof.Rows L2
def SetGO (P : Program) (w : World) (a : Addr) (ks : List Key) : HO := .ext fun h => SetG (mixKind P w) h a ks
section
variable {X : Cx}
theorem setGO_new {w : World} {P : Program} {H : Hp} {h : Heap} {a : Addr} {ks : List Key} (R : SetG (mixKind P w) h a ks) : ObjOk P w H h a (SetGO P w a ks) := by
  have ⟨o, _, _, _, _, _, ho, _⟩ := R
  exact ⟨R, ⟨o, ho⟩, fun h1 h2 p k => SetG.at p k⟩
theorem setGO_get {pins : List (Addr × Obj)} {σ : L2.St} {H : Hp} {s : Shared} {a : Addr} {ks : List Key} (I : Inv X pins σ H s) (ha : H a = some (SetGO X.prog X.w a ks)) : SetG (mixKind X.prog X.w) s.heap a ks := (I.hok a _ ha).1
theorem kV_scan {k : Key} {u : Value} (r : RelV (kV k) u) : u.scannable = true := by
  cases k with
  | inl i => obtain ⟨t, e⟩ := (show ∃ t, u = Value.int i t from r); subst e; rfl
  | inr x => obtain ⟨t, e⟩ := (show ∃ t, u = Value.str x t from r); subst e; rfl
theorem vals_at {ks : List Key} : ∀ {us : List Value}, Vals (ks.map kV) us → ∀ (i : Nat) (v : Value), us[i]? = some v → ∃ k, ks[i]? = some k ∧ (mixKind X.prog X.w).is k v = true ∧ v.scannable = true := by
  induction ks with
  | nil => intro us r i v e; cases r; simp at e
  | cons k ks ih =>
    intro us r i v e
    cases r with
    | cons r rr =>
      cases i with
      | zero => simp at e; subst e; exact ⟨k, rfl, kV_is r, kV_scan r⟩
      | succ i =>
        obtain ⟨k', h1, h2⟩ := ih rr i v (by simpa using e)
        exact ⟨k', by simpa using h1, h2⟩
def rSetL (K : PySem.W.Frag) (P : Program) (w : World) : List V → Hp → VK → Prop := fun xs H Q => ∃ (l : Addr) (ks : List Key), xs = [V.ref l] ∧ SqL K H l (ks.map kV) ∧ ks.length + 1 < scanBound ∧ ∀ p, H p = none → Q (.ref p) (upd H p (SetGO P w p (seenK ks)))
theorem cr_setL (hc : X.calm = true) : CallR X (.type "set") (rSetL X.K X.prog X.w) := by
  intro pins s σ H xs us Q I r h
  obtain ⟨l, ks, rfl, hl, hb, q⟩ := h
  rw [Vals.ref1 r]
  obtain ⟨its, rv, pl, hz⟩ := I.list hl
  have hn : its.length = ks.length := by rw [← rv.length, List.length_map]
  refine call_set_list (knd := mixKind X.prog X.w) ks (I.ok.hd hc) pl.isList (by simpa using hn) (fun i v e => vals_at (X := X) rv i v (by simpa using e)) hb fun h' tk R k => ?_
  exact ⟨.ref s.heap.objs.size, upd H s.heap.objs.size (SetGO X.prog X.w s.heap.objs.size (seenK ks)), I.laid (t' := tk) k (Nat.le_refl _) (setGO_new R), rfl, q _ (I.hok.fresh (Nat.le_refl _))⟩
def charsK (z : Str) : List Key := z.cps.toList.map fun c => .inr ⟨#[c]⟩
def rSetS (P : Program) (w : World) : List V → Hp → VK → Prop := fun xs H Q => ∃ z : Str, xs = [V.str z] ∧ z.cps.size + 1 < scanBound ∧ ∀ p, H p = none → Q (.ref p) (upd H p (SetGO P w p (seenK (charsK z))))
theorem cr_setS (hc : X.calm = true) : CallR X (.type "set") (rSetS X.prog X.w) := by
  intro pins s σ H xs us Q I r h
  obtain ⟨z, rfl, hb, q⟩ := h
  obtain ⟨u, rfl, ru⟩ := r.one
  obtain ⟨t, rfl⟩ := ru
  have hn : z.cps.size = (charsK z).length := by simp [charsK]
  refine call_set_str (knd := mixKind X.prog X.w) (charsK z) (I.ok.hd hc) hn (fun i v e => ?_) (by rw [← hn]; exact hb) fun h' tk R k => ?_
  · obtain ⟨c, u, hc, rfl⟩ := e
    exact ⟨.inr ⟨#[c]⟩, by unfold charsK; rw [List.getElem?_map, Array.getElem?_toList, hc]; rfl, mixKind_str _ _ _ _, rfl⟩
  · exact ⟨.ref s.heap.objs.size, upd H s.heap.objs.size (SetGO X.prog X.w s.heap.objs.size (seenK (charsK z))), I.laid (t' := tk) k (Nat.le_refl _) (setGO_new R), rfl, q _ (I.hok.fresh (Nat.le_refl _))⟩
/-- the members, gathered, then sorted by list.sort -/
theorem sorted_core {pins : List (Addr × Obj)} {σ : L2.St} {H : Hp} {s : Shared} {a : Addr} {ks : List Key} {Q : VK} (hc : X.calm = true) (I : Inv X pins σ H s) (ha : H a = some (SetGO X.prog X.w a ks)) (h64 : ks.length < 64)
    (hsort : ∀ (vs : List Value) (ks' : List Key) (s1 : Shared) (E : Value → Shared → Prop), ks'.Perm ks → Paired (fun k v => keyIs k v = true) ks' vs → ∀ {a : Addr} {n : Nat} {Pf : PySem.Fin → Shared → Prop}, s1.heap.get? a = some (seqObj "list" vs.toArray n) →
      (∀ (out : Array Value) (ys : List V), Vals ys out.toList → ys.length = ks.length → (∀ p, H p = none → Q (.ref p) (upd H p (.lst ys))) → Pf (.done (.ret .none)) { s1 with heap := sortedHeap s1.heap a vs out }) →
      wpAny (model X.prog X.w) X.A.in1.in1 (Builtin.«list.sort» ⟨[.ref a], []⟩) Pf E s1) :
    wpAny (model X.prog X.w) X.A (call (.builtin "sorted") [.ref a]) (EP X pins σ Q) X.xe s := by
  obtain ⟨o, es, ep, t, ks0, pk0, ho, hex, hd, g, nd, hb, hf, hr, hl⟩ := setGO_get I ha
  refine Calls.call_function_entry kind_sorted plain_sorted entry_sorted (args_sorted1 _) ?_
  unfold Builtin.«sorted»
  refine wpAny_bind (m := checkCount "sorted" 1 1 _) (wpAny_pure ?_)
  refine wpAny_bind (collect_set (A := X.A.in1) (I.ok.hd hc) ⟨o, ho, hex.1, hd⟩ hf hb hr hl fun s1 vs k1 hz g1 o1 pm => ?_)
  have hes : es.size = ks.length := IsK.size g pk0
  have hvl : vs.length = ks.length := by rw [pm.length_eq, List.length_map, Array.length_toList, hes]
  have hP : Paired (fun (k : Key) (v : Value) => keyIs k v = true) ks0 (es.toList.map (·.2)) := by
    have : ∀ {ks : List Key} {l : List (Int × Value)}, Paired (IsK (mixKind X.prog X.w)) ks l → Paired (fun (k : Key) (v : Value) => keyIs k v = true) ks (l.map (·.2)) := by
      intro ks l h
      induction h with
      | nil => exact .nil
      | cons a b ih => exact .cons a.1 ih
    exact this g
  obtain ⟨ks1, p1, hP1⟩ := paired_perm pm hP
  refine wpAny_bind (wpAny_newList ?_ (by rw [hvl, sizeLine_eq]; omega))
  have hoL : (s1.heap.push (seqObj "list" vs.toArray 0)).get? s1.heap.objs.size = some (seqObj "list" vs.toArray 0) := Heap.get?_push_size _ rfl
  refine wpAny_bind (wpAny_holding (wpAny_call_entry slot_list_sort ⟨_, hoL, rfl⟩ entry_list_sort (hsort vs ks1 { s1 with heap := s1.heap.push (seqObj "list" vs.toArray 0) } _ (p1.trans pk0) hP1 hoL fun out ys rv hyl q => ⟨_, rfl, ?_⟩) (args_list_sort _)))
  obtain ⟨c, hc'⟩ := sortedHeap_at (vs := vs) (out := out) hoL
  refine wpAny_pure ⟨_, rfl, ?_⟩
  have hn : H s1.heap.objs.size = none := I.hok.fresh hz
  have hlen : ys.length ≤ sizeLine := by rw [hyl, sizeLine_eq]; omega
  have keep : ∀ b u, s.heap.get? b = some u → (sortedHeap (s1.heap.push (seqObj "list" vs.toArray 0)) s1.heap.objs.size vs out).get? b = some u := fun b u e => by
    have q := k1 b u e
    have hlt := Heap.lt_size q
    rw [sortedHeap_old (Nat.ne_of_lt hlt) (by rw [size_push']; exact Nat.lt_succ_of_lt hlt)]
    exact Heap.get?_push_of_some _ q
  have J : Inv X pins σ (upd H s1.heap.objs.size (.lst ys)) { s with heap := sortedHeap (s1.heap.push (seqObj "list" vs.toArray 0)) s1.heap.objs.size vs out, gens := s1.gens, drawn := s1.drawn, toks := s1.toks } :=
    I.call (ch := []) (Un.laid keep hz hn) (I.hok.laid keep hz ⟨hlen, out.toList, c, rv, hc'⟩) (by rw [g1]; exact I.bare) (fun _ z => nomatch z)
  refine ⟨.ref s1.heap.objs.size, upd H s1.heap.objs.size (.lst ys), ?_, rfl, q _ hn⟩
  have e : ({ s1 with heap := sortedHeap (s1.heap.push (seqObj "list" vs.toArray 0)) s1.heap.objs.size vs out } : Shared) = { s with heap := sortedHeap (s1.heap.push (seqObj "list" vs.toArray 0)) s1.heap.objs.size vs out, gens := s1.gens, drawn := s1.drawn, toks := s1.toks } := by
    rw [← o1]
  exact e ▸ J
theorem perm_inr {l : List Key} {zs : List Str} (h : l.Perm (zs.map .inr)) : ∃ ys : List Str, ys.Perm zs ∧ l = ys.map .inr := by
  have h2 := h.filterMap (fun k : Key => match k with | .inr x => some x | .inl _ => none)
  have e : (zs.map (Sum.inr : Str → Key)).filterMap (fun k : Key => match k with | .inr x => some x | .inl _ => none) = zs := by
    rw [List.filterMap_map]
    have : ((fun k : Key => match k with | .inr x => some x | .inl _ => none) ∘ (Sum.inr : Str → Key)) = some := rfl
    rw [this, List.filterMap_some]
  rw [e] at h2
  refine ⟨_, h2, ?_⟩
  have all : ∀ k ∈ l, ∃ x, k = .inr x := fun k hk => by
    obtain ⟨x, _, e⟩ := List.mem_map.mp (h.mem_iff.mp hk)
    exact ⟨x, e.symm⟩
  clear h h2 e
  induction l with
  | nil => rfl
  | cons k l ih =>
    obtain ⟨x, rfl⟩ := all k List.mem_cons_self
    rw [List.filterMap_cons, List.map_cons, ← ih fun k hk => all k (List.mem_cons_of_mem _ hk)]
theorem perm_inl {l : List Key} {zs : List Int} (h : l.Perm (zs.map .inl)) : ∃ ys : List Int, ys.Perm zs ∧ l = ys.map .inl := by
  have h2 := h.filterMap (fun k : Key => match k with | .inl x => some x | .inr _ => none)
  have e : (zs.map (Sum.inl : Int → Key)).filterMap (fun k : Key => match k with | .inl x => some x | .inr _ => none) = zs := by
    rw [List.filterMap_map]
    have : ((fun k : Key => match k with | .inl x => some x | .inr _ => none) ∘ (Sum.inl : Int → Key)) = some := rfl
    rw [this, List.filterMap_some]
  rw [e] at h2
  refine ⟨_, h2, ?_⟩
  have all : ∀ k ∈ l, ∃ x, k = .inl x := fun k hk => by
    obtain ⟨x, _, e⟩ := List.mem_map.mp (h.mem_iff.mp hk)
    exact ⟨x, e.symm⟩
  clear h h2 e
  induction l with
  | nil => rfl
  | cons k l ih =>
    obtain ⟨x, rfl⟩ := all k List.mem_cons_self
    rw [List.filterMap_cons, List.map_cons, ← ih fun k hk => all k (List.mem_cons_of_mem _ hk)]
theorem strs_are : ∀ {ys : List Str} {vs : List Value}, Paired (fun (k : Key) (v : Value) => keyIs k v = true) (ys.map .inr) vs → StrsAre vs ys
  | [], _, h => by cases h; exact .nil
  | y :: ys, _, h => by
    cases h with
    | cons a b =>
      rcases keyIs_shape a with ⟨_, _, e, _⟩ | ⟨x, t, e, e2⟩
      · cases e
      · cases e; subst e2; exact .cons _ _ (strs_are b)
theorem ints_are : ∀ {ys : List Int} {vs : List Value}, Paired (fun (k : Key) (v : Value) => keyIs k v = true) (ys.map .inl) vs → IntsAre vs ys
  | [], _, h => by cases h; exact .nil
  | y :: ys, _, h => by
    cases h with
    | cons a b =>
      rcases keyIs_shape a with ⟨x, t, e, e2⟩ | ⟨_, _, e, _⟩
      · cases e; subst e2; exact .cons _ _ (ints_are b)
      · cases e
def rSortG (P : Program) (w : World) : List V → Hp → VK → Prop := fun vs H Q => ∃ (a : Addr) (ks : List Key), vs = [V.ref a] ∧ H a = some (SetGO P w a ks) ∧ ks.length < 64 ∧
  ((∃ zs : List Str, ks = zs.map .inr ∧ ∀ (ys : List Str) (p : Addr), ys.Perm zs → sortedS ys = true → H p = none → Q (.ref p) (upd H p (.lst (ys.map V.str)))) ∨
   (∃ zs : List Int, ks = zs.map .inl ∧ ∀ (ys : List Int) (p : Addr), ys.Perm zs → ys.Pairwise (· ≤ ·) → H p = none → Q (.ref p) (upd H p (.lst (ys.map V.int)))))
theorem cr_sortedG (hc : X.calm = true) : CallR X (.builtin "sorted") (rSortG X.prog X.w) := by
  intro pins s σ H vs us Q I r h
  obtain ⟨a, ks, rfl, ha, h64, q⟩ := h
  rw [Vals.ref1 r]
  refine sorted_core hc I ha h64 fun vs ks' s1 E pk hP {a n Pf} ho k => ?_
  rcases q with ⟨zs, rfl, q⟩ | ⟨zs, rfl, q⟩
  · obtain ⟨ys, py, rfl⟩ := perm_inr pk
    have hS := strs_are hP
    have hl : vs.length = zs.length := by rw [← paired_len hP, List.length_map, py.length_eq]
    refine list_sort_treeK strKind_oneLt ho hS.keysOf (fun v₁ v₂ rest e => keyKind_strs (by rw [← e]; exact hS)) (by rw [hl]; simpa using h64) fun st' hp hs => ?_
    obtain ⟨ys', g1, g2, g3⟩ := sorted_out_str hS hp hs
    exact k _ _ (vals_of_strs g1) (by rw [List.length_map, List.length_map, g2.length_eq, py.length_eq]) fun p hp => q ys' p (g2.trans py) g3 hp
  · obtain ⟨ys, py, rfl⟩ := perm_inl pk
    have hS := ints_are hP
    have hl : vs.length = zs.length := by rw [← paired_len hP, List.length_map, py.length_eq]
    refine list_sort_tree ho hS (by rw [hl]; simpa using h64) fun out ns' g1 g2 g3 => ?_
    exact k _ _ (vals_of_ints g1) (by rw [List.length_map, List.length_map, g2.length_eq, py.length_eq]) fun p hp => q ns' p (g2.trans py) g3 hp
end
end Py
/-! More operators; slices; methods that change nothing; repr; sorted sets. -/
namespace Py
open PySem PySem.Spec PyProof.Rows L2
open Classical
/-! ### comparisons -/
def ltS (x y : Str) : Bool := decide (x.cps.toList < y.cps.toList)
def cmpX : CmpOp → D → D → Option Bool
  | .Lt, .str x, .str y => some (ltS x y)
  | .LtE, .str x, .str y => some (!ltS y x)
  | .Gt, .str x, .str y => some (ltS y x)
  | .GtE, .str x, .str y => some (!ltS x y)
  | .Is, .bl a, .bl b => some (decide (a = b))
  | .IsNot, .bl a, .bl b => some (!decide (a = b))
  | .In, x, .lst ys => if okE 60 x && okE 60 (.lst ys) then some (inD x ys) else none
  | .NotIn, x, .lst ys => if okE 60 x && okE 60 (.lst ys) then some (!inD x ys) else none
  | .In, .str x, .str y => match x.cps.toList with
    | [c] => some (decide (c ∈ y.cps.toList))
    | _ => none
  | .NotIn, .str x, .str y => match x.cps.toList with
    | [c] => some (!decide (c ∈ y.cps.toList))
    | _ => none
  | o, x, y => cmpD o x y
def cutL {α : Type} (xs : List α) (lo hi : Option Int) : List α := (xs.drop (HT.sIx xs.length 0 lo)).take (HT.sIx xs.length xs.length hi - HT.sIx xs.length 0 lo)
def slD : D → Option Int → Option Int → Option (D × Bool)
  | .lst xs, lo, hi => some (.lst (cutL xs lo hi), true)
  | .fz xs, lo, hi => some (.lst (cutL xs lo hi), true)
  | .tup xs, lo, hi => some (.tup (cutL xs lo hi), false)
  | .str z, lo, hi => if z.length ≤ lim then some (.str (cutS z lo hi), false) else none
  | _, _, _ => none
def asStrs : List D → Option (List Str)
  | [] => some []
  | .str x :: r => (asStrs r).map (x :: ·)
  | _ :: _ => none
/-- the place of a value in a list -/
def findD (x : D) : List D → Option Nat
  | [] => none
  | y :: r => if eqD y x then some 0 else (findD x r).map (· + 1)
def mthF : Mth → D → List D → Option (D × Bool)
  | .index, .str z, [.str x] => match Builtin.Str.occurrences z x 0 z.length 1 with
    | i :: _ => some (.int (i : Nat), false)
    | [] => none
  | .index, .lst ys, [x] => if okE 60 x && okE 60 (.lst ys) then (findD x ys).map fun i => (.int (i : Nat), false) else none
  | .join, .str z, [.lst ys] => match asStrs ys with
    | some zs => if (zs.map (·.length)).sum + zs.length * z.length ≤ 16777216 then some (.str (Txt.join z zs), false) else none
    | none => none
  | .count, .str z, [.str x] => some (.int (Txt.count z x), false)
  | .get, .dic kds, [k, d] => match asKey k with
    | some j => if leafD d = true then some ((lookD j kds).getD d, false) else none
    | none => none
  | _, _, _ => none
/-- a list of keys, of one kind -/
def asKeys : List D → Option (List Key)
  | [] => some []
  | .str x :: r => (asKeys r).map (.inr x :: ·)
  | .int i :: r => (asKeys r).map (.inl i :: ·)
  | _ :: _ => none
def insS (x : Str) : List Str → List Str
  | [] => [x]
  | y :: r => if ltS x y then x :: y :: r else y :: insS x r
def srtS (l : List Str) : List Str := l.foldr insS []
def insI (x : Int) : List Int → List Int
  | [] => [x]
  | y :: r => if x ≤ y then x :: y :: r else y :: insI x r
def srtI (l : List Int) : List Int := l.foldr insI []
section
variable {G : Gb} {W W0 W1 W2 W' : Wd} {σ : L2.St} {en en' en1 en2 en3 en4 : Stt} {d d' e r rd : D} {v u : V} {q q1 q2 q3 : Bool} {X : Cx} (hG : G.K = X.K) {fr : Bool} {a b : Expr} {tg : Expr} {ws ws1 ws2 : List Nat} {fl fl' : Fl} {p : Addr} {ds : List D}
theorem in_eqv {x : D} {n : Nat} (hx : okE n x = true) : ∀ {m : Nat} {ys : List D}, ys.all (okE m) = true → ((toPys ys).any fun z => PyData.eqv z (toPy x)) = inD x ys
  | m, [], _ => rfl
  | m, y :: ys, h => by
    obtain ⟨h1, h2⟩ := okE_all h
    show ((toPy y :: toPys ys).any fun z => PyData.eqv z (toPy x)) = ((y :: ys).any fun y => eqD y x)
    rw [List.any_cons, List.any_cons, eqv_of y x m n h1 hx]
    exact congrArg _ (in_eqv hx h2)
include hG in
theorem cmpX_ok (hu : X.A.units + 65 < cLine) {o : CmpOp} {b : Bool} (h : cmpX o d e = some b) : ∃ rr, OpR X (compareOp o) rr ∧ Rd2 G rr d e (.bl b) false := by
  unfold cmpX at h
  split at h
  · cases h
    exact ⟨_, op_lt_str, fun W v u Q ok hl h1 h2 k => ⟨_, _, h1.str, h2.str, k _ W (PStep.refl W) ok (Dat.bl _)⟩⟩
  · cases h
    exact ⟨_, op_le_str, fun W v u Q ok hl h1 h2 k => ⟨_, _, h1.str, h2.str, k _ W (PStep.refl W) ok (Dat.bl _)⟩⟩
  · cases h
    exact ⟨_, op_gt_str, fun W v u Q ok hl h1 h2 k => ⟨_, _, h1.str, h2.str, k _ W (PStep.refl W) ok (Dat.bl _)⟩⟩
  · cases h
    exact ⟨_, op_ge_str, fun W v u Q ok hl h1 h2 k => ⟨_, _, h1.str, h2.str, k _ W (PStep.refl W) ok (Dat.bl _)⟩⟩
  · cases h
    exact ⟨_, op_isBl, fun W v u Q ok hl h1 h2 k => ⟨_, _, h1.bl, h2.bl, k _ W (PStep.refl W) ok (Dat.bl _)⟩⟩
  · cases h
    exact ⟨_, op_notBl, fun W v u Q ok hl h1 h2 k => ⟨_, _, h1.bl, h2.bl, k _ W (PStep.refl W) ok (Dat.bl _)⟩⟩
  · rename_i x ys
    split at h
    · rename_i hz
      cases h
      rw [Bool.and_eq_true] at hz
      obtain ⟨m, hm, hys⟩ := okE_lst hz.2
      refine ⟨_, op_inD hu, fun W v u Q ok hl h1 h2 k => ⟨toPy d, toPys ys, by rw [← hG]; exact h1.dp ok hz.1, by rw [← hG]; have := h2.dp ok hz.2; rwa [toPy] at this, shaped_of hz.1, by have := shaped_of hz.2; rwa [toPy] at this, ?_⟩⟩
      rw [in_eqv hz.1 hys]
      exact k _ W (PStep.refl W) ok (Dat.bl _)
    · cases h
  · rename_i x ys
    split at h
    · rename_i hz
      cases h
      rw [Bool.and_eq_true] at hz
      obtain ⟨m, hm, hys⟩ := okE_lst hz.2
      refine ⟨_, op_notInD hu, fun W v u Q ok hl h1 h2 k => ⟨toPy d, toPys ys, by rw [← hG]; exact h1.dp ok hz.1, by rw [← hG]; have := h2.dp ok hz.2; rwa [toPy] at this, shaped_of hz.1, by have := shaped_of hz.2; rwa [toPy] at this, ?_⟩⟩
      rw [in_eqv hz.1 hys]
      exact k _ W (PStep.refl W) ok (Dat.bl _)
    · cases h
  · rename_i x y
    split at h
    · rename_i c hc
      cases h
      have ex : x = ⟨#[c]⟩ := by
        cases x with
        | mk cps =>
          have hc : cps.toList = [c] := hc
          congr 1
          exact Array.toList_inj.mp (by rw [hc])
      subst ex
      exact ⟨_, op_in_sign, fun W v u Q ok hl h1 h2 k => ⟨c, y, h1.str, h2.str, k _ W (PStep.refl W) ok (Dat.bl _)⟩⟩
    · cases h
  · rename_i x y
    split at h
    · rename_i c hc
      cases h
      have ex : x = ⟨#[c]⟩ := by
        cases x with
        | mk cps =>
          have hc : cps.toList = [c] := hc
          congr 1
          exact Array.toList_inj.mp (by rw [hc])
      subst ex
      exact ⟨_, op_notIn_sign, fun W v u Q ok hl h1 h2 k => ⟨c, y, h1.str, h2.str, k _ W (PStep.refl W) ok (Dat.bl _)⟩⟩
    · cases h
  · exact cmp_ok hG (by omega) h
/-! ### slices -/
theorem DatL.cut {A : List Addr} {U : Hp} {ds : List D} {vs : List V} (h : DatL G A U ds vs) (lo hi : Option Int) : DatL G A U (cutL ds lo hi) (cutV vs lo hi) := by
  unfold cutL cutV
  rw [h.length]
  exact (h.drop _).take _
def SlLaw (G : Gb) (rr : V → Option Int → Option Int → Hp → VK → Prop) (d : D) (lo hi : Option Int) (r : D) (fr : Bool) : Prop := ∀ W v Q, W.Ok → Top G W d v →
  (∀ z W', PStep W W' → W'.Ok → Val G W W' fr r z → Q z W'.H) → rr v lo hi W.H Q
include hG in
theorem sl_ok {lo hi : Option Int} (h : slD d lo hi = some (r, fr)) : ∃ rr, SlR X rr ∧ SlLaw G rr d lo hi r fr := by
  unfold slD at h
  split at h
  · cases h
    refine ⟨_, sl_list, fun W v Q ok h1 k => ?_⟩
    obtain ⟨a, vs, rfl, sh, dl⟩ := h1.lst ok
    refine ⟨a, vs, rfl, .inl (.inl sh), fun p hp => ?_⟩
    obtain ⟨W2, e2, ps, ok2, vl⟩ := new_lst ok hp (dl.cut lo hi)
    rw [← e2]
    exact k _ W2 ps ok2 vl
  · cases h
    refine ⟨_, sl_list, fun W v Q ok h1 k => ?_⟩
    obtain ⟨a, vs, rfl, sh, dl⟩ := h1.fz ok
    refine ⟨a, vs, rfl, by rw [← hG]; exact sh, fun p hp => ?_⟩
    obtain ⟨W2, e2, ps, ok2, vl⟩ := new_lst ok hp (dl.cut lo hi)
    rw [← e2]
    exact k _ W2 ps ok2 vl
  · rename_i xs
    cases h
    refine ⟨_, sl_tupA, fun W v Q ok h1 k => ?_⟩
    obtain ⟨a, vs, rfl, su, sh, dl⟩ := h1.tup ok
    refine ⟨a, vs, rfl, by rw [← hG]; exact sh, fun z => ?_, fun _ p hp => ?_⟩
    · have hxs : cutL xs lo hi = xs := by
        unfold cutL
        rw [dl.length, z.1, z.2, List.drop_zero, Nat.sub_zero, ← dl.length, List.take_length]
      rw [hxs] at k
      exact k _ W (PStep.refl W) ok (Dat.tup su dl)
    · obtain ⟨W2, e2, ps, ok2, vl⟩ := new_tup ok hp (dl.cut lo hi)
      rw [← e2]
      exact k _ W2 ps ok2 vl
  · rename_i z
    split at h
    · rename_i hz
      cases h
      exact ⟨_, sl_str, fun W v Q ok h1 k => ⟨z, h1.str, by rw [← lim_line]; exact hz, k _ W (PStep.refl W) ok (Dat.str _)⟩⟩
    · cases h
  · cases h
/-- a part of a slice: none, or an int -/
def tPt (G : Gb) (q : Bool) (en : Stt) (o : Option Int) (en' : Stt) : TO := fun σ H Q => ∃ W : Wd, W.H = H ∧ W.Ok ∧ Rep G W σ en ∧
  ∀ W', Step W W' → W'.Ok → Rep G W' σ en' → QS q W W' → LenOk G.K W'.H → Q o W'.H
theorem po_imp {e : Option Expr} {t t' : TO} (h : PO X e t) (imp : ∀ σ H Q, LenOk X.K H → t' σ H Q → t σ H fun v H1 => LenOk X.K H1 → Q v H1) : PO X e t' :=
  ⟨fun pins s σ H Q I w => thn (h.run pins s σ H _ I (imp σ H Q (len_inv I) w)) fun u s' ⟨v, H', I', r, q⟩ => ⟨v, H', I', r, q (len_inv I')⟩⟩
include hG in
theorem pt_no : PO X none (tPt G true en none en) := po_imp po_none fun σ H Q hl ⟨W, e1, ok, rp, k⟩ => by
  subst e1
  exact fun hl1 => k W (Step.refl W) ok rp (QS.refl W) (by rw [hG]; exact hl1)
theorem pt_so {e : Expr} {i : Int} (h : PE X e (tD G q en ⟨.int i, fr, en'⟩)) : PO X (some e) (tPt G q en (some i) en') := po_imp (po_some h) fun σ H Q hl ⟨W, e1, ok, rp, k⟩ => by
  subst e1
  exact ⟨W, rfl, ok, rp, fun v W1 st1 ok1 rp1 a1 qs1 l1 => ⟨i, a1.int, fun _ => k W1 st1 ok1 rp1 qs1 l1⟩⟩
include hG in
theorem d_slc {e : Expr} {lo hi : Option Expr} {x : AV} {l h : Option Int} {pos p2 : Pos} {rr : V → Option Int → Option Int → Hp → VK → Prop} (he : PE X e (tArg G q1 en x en1)) (hlo : PO X lo (tPt G q2 en1 l en2)) (hhi : PO X hi (tPt G q3 en2 h en3))
    (hr : SlR X rr) (hd : x.dat en3 = some d) (hlaw : SlLaw G rr d l h r fr) (hx : x.isF = true → q2 = true ∧ q3 = true) : PE X (.Subscript e (.Slice lo hi none p2) pos) (tD G false en ⟨r, fr, en3⟩) :=
  pe_imp (pe_slice hr he hlo hhi) fun σ H Q _ ⟨W, e1, ok, rp, k⟩ => by
    subst e1
    refine ⟨W, rfl, ok, rp, fun v W1 st1 ok1 rp1 a1 qs1 l1 => ⟨W1, rfl, ok1, rp1, fun W2 st2 ok2 rp2 qs2 l2 => ⟨W2, rfl, ok2, rp2, fun W3 st3 ok3 rp3 qs3 l3 => ?_⟩⟩⟩
    have a3 : AvOk G W W3 σ x v := (a1.step st2 fun z => qs2 (hx z).1).step st3 fun z => qs3 (hx z).2
    refine hlaw W3 v _ ok3 (a3.top rp3 hd) fun z W4 ps ok4 vl => fun hl4 => ?_
    exact k z W4 (((st1.trans ok1 st2).trans ok2 st3).trans ok3 ps.S) ok4 (rp3.pstep ps) (vl.back ((st1.trans ok1 st2).trans ok2 st3)) QS.f (by rw [hG]; exact hl4)
end
end Py
/-! repr of data, with dicts. -/
namespace Py
open PySem PySem.Spec PyProof.Rows L2
/-- what repr is asked of -/
def okR : Nat → D → Bool
  | _, .non => true
  | _, .bl _ => true
  | _, .int _ => true
  | _, .str x => PyData.strOk x
  | n + 1, .tup xs => xs.all (okR n)
  | n + 1, .lst xs => xs.all (okR n)
  | n + 1, .dic kvs => kvs.all fun p => okR n p.1 && okR n p.2
  | _, _ => false
theorem okR_all {n : Nat} {x : D} {xs : List D} (h : (x :: xs).all (okR n) = true) : okR n x = true ∧ xs.all (okR n) = true := by
  rw [List.all_cons, Bool.and_eq_true] at h; exact h
theorem okR_dic1 {n : Nat} {k v : D} {r : List (D × D)} (h : (((k, v) :: r).all fun p => okR n p.1 && okR n p.2) = true) : okR n k = true ∧ okR n v = true ∧ (r.all fun p => okR n p.1 && okR n p.2) = true := by
  rw [List.all_cons, Bool.and_eq_true, Bool.and_eq_true] at h; exact ⟨h.1.1, h.1.2, h.2⟩
theorem okR_tup {n : Nat} {xs : List D} (h : okR n (.tup xs) = true) : ∃ m, n = m + 1 ∧ xs.all (okR m) = true := by
  cases n with
  | zero => exact nomatch h
  | succ m => exact ⟨m, rfl, h⟩
theorem okR_lst {n : Nat} {xs : List D} (h : okR n (.lst xs) = true) : ∃ m, n = m + 1 ∧ xs.all (okR m) = true := by
  cases n with
  | zero => exact nomatch h
  | succ m => exact ⟨m, rfl, h⟩
theorem okR_dic {n : Nat} {xs : List (D × D)} (h : okR n (.dic xs) = true) : ∃ m, n = m + 1 ∧ (xs.all fun p => okR m p.1 && okR m p.2) = true := by
  cases n with
  | zero => exact nomatch h
  | succ m => exact ⟨m, rfl, h⟩
mutual
theorem okR_of : ∀ (d : D) (n : Nat), okE n d = true → okR n d = true
  | .non, n, _ => by cases n <;> rfl
  | .bl b, n, _ => by cases n <;> rfl
  | .int i, n, _ => by cases n <;> rfl
  | .str x, n, h => by cases n <;> exact h
  | .tup xs, 0, h => by cases h
  | .tup xs, n + 1, h => okR_ofs xs n h
  | .lst xs, 0, h => by cases h
  | .lst xs, n + 1, h => okR_ofs xs n h
  | .dic x, n, h => absurd rfl ((okE_no h).1 x)
  | .obj x, n, h => absurd rfl ((okE_no h).2.1 x)
  | .fz x, n, h => absurd rfl ((okE_no h).2.2 x)
theorem okR_ofs : ∀ (xs : List D) (n : Nat), xs.all (okE n) = true → xs.all (okR n) = true
  | [], _, _ => rfl
  | x :: xs, n, h => by
    obtain ⟨h1, h2⟩ := okE_all h
    rw [List.all_cons, okR_of x n h1, okR_ofs xs n h2]; rfl
end
mutual
theorem depR : ∀ (d : D) (n : Nat), okR n d = true → (toPy d).depth ≤ n
  | .non, _, _ => by simp [toPy, PyData.depth]
  | .bl b, _, _ => by simp [toPy, PyData.depth]
  | .int i, _, _ => by simp [toPy, PyData.depth]
  | .str x, _, _ => by simp [toPy, PyData.depth]
  | .tup xs, 0, h => by cases h
  | .tup xs, n + 1, h => by have := depRs xs n h; simp [toPy, PyData.depth]; omega
  | .lst xs, 0, h => by cases h
  | .lst xs, n + 1, h => by have := depRs xs n h; simp [toPy, PyData.depth]; omega
  | .dic kvs, 0, h => by cases h
  | .dic kvs, n + 1, h => by have := depRk kvs n h; simp [toPy, PyData.depth]; omega
  | .obj x, n, h => by cases n <;> cases h
  | .fz x, n, h => by cases n <;> cases h
theorem depRs : ∀ (xs : List D) (n : Nat), xs.all (okR n) = true → PyData.depthAll (toPys xs) ≤ n
  | [], _, _ => by simp [toPys, PyData.depthAll]
  | x :: xs, n, h => by
    obtain ⟨h1, h2⟩ := okR_all h
    have a := depR x n h1
    have b := depRs xs n h2
    simp [toPys, PyData.depthAll]; omega
theorem depRk : ∀ (xs : List (D × D)) (n : Nat), (xs.all fun p => okR n p.1 && okR n p.2) = true → PyData.depthKv (toPyk xs) ≤ n
  | [], _, _ => by simp [toPyk, PyData.depthKv]
  | (k, v) :: xs, n, h => by
    obtain ⟨h1, h2, h3⟩ := okR_dic1 h
    have a := depR k n h1
    have b := depR v n h2
    have c := depRk xs n h3
    simp [toPyk, PyData.depthKv]; omega
end
section
variable {G : Gb} {X : Cx} {pins : List (Addr × Obj)} {σ : L2.St} {H : Hp} {s : Shared} {W : Wd}
/-- a dict's entries, read -/
theorem keys_reads {P : Program} {w : World} (h : Heap) : ∀ {es : List DictEntry} {kvs : List (Key × V)} {vs : List (Key × Value)} {ds : List D}, KV kvs vs → Pairs (mixKind P w) es vs → ds.length = kvs.length →
    ReadsAll h (es.map (·.key)) ((toPyk ((kvs.map fun p => kD p.1).zip ds)).map (·.1)) []
  | _, _, _, _, .nil, .nil, _ => .nil
  | _, _, _, [], .cons _ _, .cons _ _ _, e => by cases e
  | _, _, _, d :: ds, .cons (a := p) (b := q) h1 h2, .cons (e := en) h3 h4 h5, e => by
    have r := keys_reads h (ds := ds) h2 h5 (by simpa using e)
    obtain ⟨k, v⟩ := p
    obtain ⟨k', v'⟩ := q
    have h1 : k = k' ∧ _ := h1
    obtain ⟨rfl, _⟩ := h1
    have h3 : keyIs k en.key = true := h3
    rcases keyIs_shape h3 with ⟨i, t, rfl, e2⟩ | ⟨x, t, rfl, e2⟩
    · show ReadsAll h (en.key :: _) (PyData.int i :: _) ([] ++ [])
      rw [e2]
      exact .cons (.int i t) r
    · show ReadsAll h (en.key :: _) (PyData.str x :: _) ([] ++ [])
      rw [e2]
      exact .cons (.str x t) r
theorem vals_of {P : Program} {w : World} : ∀ {es : List DictEntry} {kvs : List (Key × V)} {vs : List (Key × Value)}, KV kvs vs → Pairs (mixKind P w) es vs → Vals (kvs.map (·.2)) (es.map (·.val))
  | _, _, _, .nil, .nil => .nil
  | _, _, _, .cons (a := p) (b := q) h1 h2, .cons (e := en) h3 h4 h5 => by
    refine .cons ?_ (vals_of h2 h5)
    show RelV p.2 en.val
    rw [h4]; exact h1.2
theorem toPyk_snd : ∀ {kvs : List (Key × V)} {ds : List D}, ds.length = kvs.length → (toPyk ((kvs.map fun p => kD p.1).zip ds)).map (·.2) = toPys ds
  | [], [], _ => rfl
  | p :: kvs, d :: ds, h => by
    have b := toPyk_snd (kvs := kvs) (ds := ds) (by simpa using h)
    exact congrArg (toPy d :: ·) b
theorem zip_okR {n : Nat} : ∀ {kvs : List (Key × V)} {ds : List D}, ds.length = kvs.length → (((kvs.map fun p => kD p.1).zip ds).all fun p => okR n p.1 && okR n p.2) = true → ds.all (okR n) = true
  | [], [], _, _ => rfl
  | p :: kvs, d :: ds, h, a => by
    have a : (((kD p.1, d) :: (kvs.map fun p => kD p.1).zip ds).all fun p => okR n p.1 && okR n p.2) = true := a
    obtain ⟨_, h2, h3⟩ := okR_dic1 a
    rw [List.all_cons, h2, zip_okR (by simpa using h) h3]; rfl
mutual
theorem dat_reads {A : List Addr} {U : Hp} (hG : G.K = X.K) (I : Inv X pins σ H s) (sU : Sub U H) (hsm : H sysModules = none) : ∀ (d : D) (n : Nat) (v : V) (u : Value), okR n d = true → Dat G A U d v → RelV v u → ∃ as, Reads s.heap u (toPy d) as ∧ sysModules ∉ as
  | .non, _, _, _, _, h, r => by cases h; cases r; exact ⟨[], .none, by simp⟩
  | .bl b, _, _, _, _, h, r => by cases h; cases r; exact ⟨[], .bool b, by simp⟩
  | .int i, _, _, _, _, h, r => by cases h; obtain ⟨t, rfl⟩ := r; exact ⟨[], .int i t, by simp⟩
  | .str x, _, _, _, _, h, r => by cases h; obtain ⟨t, rfl⟩ := r; exact ⟨[], .str x t, by simp⟩
  | .tup xs, 0, _, _, e, _, _ => by cases e
  | .tup xs, n + 1, _, _, e, h, r => by
    cases h with
    | @tup a vs _ h1 h2 =>
      cases r
      obtain ⟨its, rv, ⟨o, ho, hc, m, hd⟩, _⟩ := I.tuple (show SqT X.K H a vs by rw [← hG]; exact sU.sqt h1)
      obtain ⟨as, q1, q2⟩ := dats_reads hG I sU hsm xs n vs its e h2 rv
      exact ⟨as, .tuple ho hc hd (by simpa using q1), q2⟩
  | .lst xs, 0, _, _, e, _, _ => by cases e
  | .lst xs, n + 1, _, _, e, h, r => by
    cases h with
    | @lst a vs _ h1 h2 =>
      cases r
      have hH := sU _ _ h1
      obtain ⟨z, its, m, rv, ho⟩ := I.hok a _ hH
      obtain ⟨as, q1, q2⟩ := dats_reads hG I sU hsm xs n vs its e h2 rv
      refine ⟨a :: as, .list ho rfl rfl (by simpa using q1), fun z => ?_⟩
      rcases List.mem_cons.mp z with z | z
      · rw [z, hH] at hsm; cases hsm
      · exact q2 z
  | .dic kds, 0, _, _, e, _, _ => by cases e
  | .dic kds, n + 1, _, u, e, h, r => by
    generalize hq : D.dic kds = dd at h
    cases h <;> first | (cases hq; done) | skip
    rename_i a kvs ds h1 h2
    cases hq
    cases r
    have hH := sU _ _ h1
    obtain ⟨z, hsys, vs, kv, o, es, ep, ho, hx, hd, hk, hp, hn⟩ := I.hok a _ hH
    have hl : ds.length = kvs.length := by have := h2.length; rw [List.length_map] at this; exact this
    have hdv := vals_of kv hp
    obtain ⟨as, q1, q2⟩ := dats_reads hG I sU hsm ds n _ _ (zip_okR hl e) h2 hdv
    have q0 := keys_reads s.heap (ds := ds) kv hp hl
    refine ⟨a :: ([] : List Addr) ++ as, .dict ho hx.1 hd q0 (by rw [toPyk_snd hl]; exact q1), fun z => ?_⟩
    rcases List.mem_cons.mp z with z | z
    · rw [z, hH] at hsm; cases hsm
    · exact q2 z
  | .obj x, n, _, _, e, _, _ => by cases n <;> cases e
  | .fz x, n, _, _, e, _, _ => by cases n <;> cases e
theorem dats_reads {A : List Addr} {U : Hp} (hG : G.K = X.K) (I : Inv X pins σ H s) (sU : Sub U H) (hsm : H sysModules = none) : ∀ (ds : List D) (n : Nat) (vs : List V) (us : List Value), ds.all (okR n) = true → DatL G A U ds vs → Vals vs us → ∃ as, ReadsAll s.heap us (toPys ds) as ∧ sysModules ∉ as
  | [], _, _, _, _, h, r => by cases h; cases r; exact ⟨[], .nil, by simp⟩
  | d :: ds, n, _, _, e, h, r => by
    obtain ⟨e1, e2⟩ := okR_all e
    cases h with
    | cons h1 h2 =>
      cases r with
      | cons r1 r2 =>
        obtain ⟨as, a1, a2⟩ := dat_reads hG I sU hsm d n _ _ e1 h1 r1
        obtain ⟨bs, b1, b2⟩ := dats_reads hG I sU hsm ds n _ _ e2 h2 r2
        exact ⟨as ++ bs, .cons a1 b1, fun z => (List.mem_append.mp z).elim a2 b2⟩
end
theorem top_reads (hG : G.K = X.K) (I : Inv X pins σ W.H s) (ok : W.Ok) (hsm : W.H sysModules = none) {d : D} {n : Nat} {v : V} {u : Value} (e : okR n d = true) (h : Top G W d v) (r : RelV v u) : ∃ as, Reads s.heap u (toPy d) as ∧ sysModules ∉ as := by
  rcases h with h | ⟨p, rfl, h⟩
  · exact dat_reads hG I ok.subH hsm d n v u e h r
  · cases r
    cases n with
    | zero => cases d <;> first | exact h.elim | cases e
    | succ n =>
      cases d with
      | lst ds =>
        obtain ⟨vs, hH, h2⟩ := h
        obtain ⟨z, its, m, rv, ho⟩ := I.hok p _ hH
        obtain ⟨as, q1, q2⟩ := dats_reads hG I ok.subH hsm ds n vs its e h2 rv
        refine ⟨p :: as, .list ho rfl rfl (by simpa using q1), fun z => ?_⟩
        rcases List.mem_cons.mp z with z | z
        · rw [z, hH] at hsm; cases hsm
        · exact q2 z
      | dic kds =>
        obtain ⟨kvs, ds, hH, rfl, h2⟩ := h
        obtain ⟨z, hsys, vs, kv, o, es, ep, ho, hx, hd, hk, hp, hn⟩ := I.hok p _ hH
        have hl : ds.length = kvs.length := by have := h2.length; rw [List.length_map] at this; exact this
        have hdv := vals_of kv hp
        obtain ⟨as, q1, q2⟩ := dats_reads hG I ok.subH hsm ds n _ _ (zip_okR hl e) h2 hdv
        have q0 := keys_reads s.heap (ds := ds) kv hp hl
        refine ⟨p :: ([] : List Addr) ++ as, .dict ho hx.1 hd q0 (by rw [toPyk_snd hl]; exact q1), fun z => ?_⟩
        rcases List.mem_cons.mp z with z | z
        · rw [z, hH] at hsm; cases hsm
        · exact q2 z
      | _ => exact h.elim
/-- repr of data -/
def rReprD (X : Cx) (pd : PyData) : List V → Hp → VK → Prop := fun vs H Q => ∃ v, vs = [v] ∧ (∀ (pins : List (Addr × Obj)) (σ : L2.St) (s : Shared) (u : Value), Inv X pins σ H s → RelV v u → ∃ as, Reads s.heap u pd as ∧ sysModules ∉ as) ∧ Q (.str pd.shown) H
theorem call_reprD (hga : X.A.guards = some []) (hu : X.A.units + 65 < cLine) {pd : PyData} (hs : pd.showable = true) (hdp : pd.depth ≤ 60) (hz : pd.shown.length ≤ lim) : CallR X (.builtin "repr") (rReprD X pd) := by
  intro pins s σ H xs us Q I r h
  obtain ⟨v, rfl, hr, q⟩ := h
  obtain ⟨u, rfl, ru⟩ := r.one
  obtain ⟨as, rd, nm⟩ := hr pins σ s u I ru
  have fin : ∀ h' tk, (∀ b o, s.heap.get? b = some o → h'.get? b = some o) → ∀ t, EP X pins σ Q (.str pd.shown t) { s with heap := h', toks := tk } := fun h' tk hk t => ⟨.str _, H, I.kept (h' := h') (t' := tk) hk, ⟨t, rfl⟩, q⟩
  have f0 : ∀ t, EP X pins σ Q (.str pd.shown t) { s with toks := s.toks + 1 } := fun t => ⟨.str _, H, I.tok _, ⟨t, rfl⟩, q⟩
  cases rd with
  | none =>
    have f0 := f0 s.toks
    rw [PyData.shown_none] at f0
    exact PySem.P.repr_of_none f0
  | bool b =>
    have f0 := f0 s.toks
    rw [PyData.shown_bool] at f0
    exact PySem.P.repr_of_bool (by cases b <;> exact f0)
  | int i t =>
    have f0 := f0 s.toks
    rw [PyData.shown_int] at f0
    have hs : decide (i.natAbs.log2 < 1920) = true := by simpa [PyData.showable] using hs
    exact PySem.P.repr_of_int (of_decide_eq_true hs) f0
  | str x t =>
    have f0 := f0 s.toks
    rw [PyData.shown_str] at f0 hz
    exact PySem.P.repr_of_str f0 (by rw [← lim_line]; exact hz)
  | list h1 h2 h3 h4 => exact repr_of_reads' (.list h1 h2 h3 h4) hs (fun _ => nm) hga (by omega) (fun _ _ e => e) (fun h' u tk hk => fin h' tk hk u) (by rw [← lim_line]; exact hz)
  | tuple h1 h2 h3 h4 => exact repr_of_reads' (.tuple h1 h2 h3 h4) hs (fun _ => nm) hga (by omega) (fun _ _ e => e) (fun h' u tk hk => fin h' tk hk u) (by rw [← lim_line]; exact hz)
  | dict h1 h2 h3 h4 h5 => exact repr_of_reads' (.dict h1 h2 h3 h4 h5) hs (fun _ => nm) hga (by omega) (fun _ _ e => e) (fun h' u tk hk => fin h' tk hk u) (by rw [← lim_line]; exact hz)
end
end Py
/-! x[::-1] of lists, tuples, texts; tuple * int of any count. -/
namespace Py
open PySem PySem.Spec PyProof.Rows L2
section
variable {prog : Program} {w : World} {A : Around} {E : Value → Shared → Prop} {s : Shared}
theorem fmap_cg {α β : Type} {f g : α → Option β} : ∀ {l : List α}, (∀ x ∈ l, f x = g x) → l.filterMap f = l.filterMap g
  | [], _ => rfl
  | x :: l, h => by rw [List.filterMap_cons, List.filterMap_cons, h x (List.mem_cons_self ..), fmap_cg fun y hy => h y (List.mem_cons_of_mem _ hy)]
theorem places_rev (n : Nat) : Builtin.Slice.slicePlaces ((n : Int) - 1) (-1) (-1) = n := by
  unfold Builtin.Slice.slicePlaces
  rw [if_neg (by decide)]
  by_cases h : (n : Int) - 1 > -1
  · rw [if_pos h]
    have e : ((n : Int) - 1 - -1 - 1) / (- -1) = (n : Int) - 1 := by
      rw [show (- -1 : Int) = 1 by decide, Int.ediv_one]; omega
    rw [e]; omega
  · rw [if_neg h]; omega
theorem applied_rev {sl : Addr} {vs : Value} {n : Nat} {Q : Int × Int × Nat → Shared → Prop} (hs : s.heap.IsSliceOf sl .none .none vs) (ps : IsPart vs (some (-1)))
    (h : Q ((n : Int) - 1, -1, n) s) : wpAny (model prog w) A (Builtin.Slice.sliceApplied (.ref sl) (pure (n : Int))) Q E s := by
  obtain ⟨os, hos, hcs, hds⟩ := id hs
  unfold Builtin.Slice.sliceApplied Builtin.Slice.sliceFields
  refine wpAny_bind (wpAny_bind (wpAny_field hos hds (x := .none) rfl (wpAny_bind (wpAny_field hos hds (x := .none) rfl (wpAny_bind (wpAny_field hos hds (x := vs) rfl (wpAny_pure ?_)))))))
  refine wpAny_bind (HT.slicePart_ ps ?_); show wpAny _ _ (if ((-1 : Int) == 0) = true then _ else _) _ _ s
  rw [if_neg (by decide)]
  refine wpAny_bind (HT.slicePart_ .none (wpAny_bind (HT.slicePart_ .none (wpAny_bind (wpAny_pure ?_)))))
  show wpAny _ _ (pure ((n : Int) - 1, (-1 : Int), Builtin.Slice.slicePlaces ((n : Int) - 1) (-1) (-1))) _ _ s
  rw [places_rev]
  exact wpAny_pure h
theorem pick_rev (xs : Array Value) : ((List.range xs.size).filterMap fun (m : Nat) => xs[(((xs.size : Int) - 1) + (m : Int) * (-1)).toNat]?).toArray = xs.toList.reverse.toArray := by
  have e : ((List.range xs.size).filterMap fun (m : Nat) => xs[(((xs.size : Int) - 1) + (m : Int) * (-1)).toNat]?) = ((List.range xs.size).map fun k => xs.size - 1 - k).filterMap (xs[·]?) := by
    rw [List.filterMap_map]
    refine fmap_cg fun m hm => ?_
    have hm := List.mem_range.mp hm
    show _ = xs[xs.size - 1 - m]?
    congr 1
    omega
  rw [e, PySem.W.krv_range, List.filterMap_reverse, PySem.W.krv_all]
theorem getItem_tup_rev {t sl : Addr} {items : Array Value} {vs : Value} {Q : Value → Shared → Prop} (ht : IsTup s.heap t items) (hs : s.heap.IsSliceOf sl .none .none vs) (ps : IsPart vs (some (-1)))
    (h : Q (.ref s.heap.objs.size) { s with heap := s.heap.push { cls := .type "tuple", data := .seq items.toList.reverse.toArray } }) (hz : items.size ≤ sizeLine) :
    wpAny (model prog w) A (getItem (.ref t) (.ref sl)) Q E s := by
  have hok : sizeOk (.seq items.toList.reverse.toArray) := by
    show items.toList.reverse.toArray.size ≤ sizeLine
    rw [List.size_toArray, List.length_reverse, Array.length_toList]; exact hz
  obtain ⟨os, hos, hcs, hds⟩ := id hs
  have hTs : s.TypeIs (.ref sl) "slice" := ⟨os, hos, hcs⟩
  unfold getItem
  try with_reducible refine wpAny_holding ?_
  first | refine wpAny_bind (wpAny_pure ?_) | skip
  refine wpAny_bind (wpAny_sequenceKey ht.typeIs (by decide) (wpAny_bind (wpAny_callSpecial?_slot (name := Str.ofString "__getitem__") ht.typeIs PyProof.Rows.slot_tuple_getitem
    (wpAny_call_entry PyProof.Rows.slot_tuple_getitem ht.typeIs entry_tuple_getitem ?_ (args_tuple_getitem _ _)))))
  show wpAny _ _ (Builtin.Tuple.tupleItemsOf (.ref t) >>= _) _ _ s
  refine wpAny_bind (tupleItemsOf_ ht (wpAny_bind (wpAny_typeOf hTs ?_)))
  rw [if_pos (by decide)]
  refine wpAny_bind (applied_rev hs ps ?_)
  show wpAny _ _ (if (((items.size : Int) - 1) == 0 && (-1 : Int) == 1 && items.size == items.size) = true then _ else _) _ _ s
  rw [if_neg (by rw [show ((-1 : Int) == 1) = false by decide, Bool.and_false, Bool.false_and]; exact Bool.false_ne_true), pick_rev]
  first
    | exact wpAny_bind (m := Builtin.Tuple.tupleExact _) (wpAny_newObj_type (wpAny_pure ⟨_, rfl, wpAny_pure h⟩) hok)
    | exact wpAny_bind (wpAny_bind (m := Builtin.Tuple.tupleExact _) (wpAny_newObj_type (wpAny_pure (wpAny_pure ⟨_, rfl, wpAny_pure h⟩)) hok))
end
/-- what x[::-1] is, by values -/
def RvR (X : Cx) (r : V → Hp → VK → Prop) : Prop :=
  ∀ (pins : List (Addr × Obj)) (s : Shared) (σ : L2.St) (H : Hp) (x : V) (v vs : Value) (sl : Addr) (Q : VK), Inv X pins σ H s → RelV x v → s.heap.IsSliceOf sl .none .none vs → IsPart vs (some (-1)) → r x H Q →
    ∃ T id, typeLookup (.type T) "__getitem__" = pure (some (.builtin id)) ∧ s.TypeIs v T ∧ wpAny (model X.prog X.w) X.A (getItem v (.ref sl)) (EP X pins σ Q) X.xe s
section
variable {X : Cx}
theorem pe_rv {r : V → Hp → VK → Prop} {e : Expr} {te : TE} {k : Nat} {p1 p2 p3 pos : Pos} (hr : RvR X r) (he : PE X e te) :
    PE X (.Subscript e (.Slice none none (some (.UnaryOp .USub (.Constant (.int 1) k p1) p2)) p3) pos) (fun σ H Q => te σ H fun x H1 => r x H1 Q) := by
  refine ⟨fun pins s σ H Q I h => ?_⟩
  refine Subscript_ (thn (he.run pins s σ H _ I h) fun v s1 ⟨x, H1, I1, r1, q1⟩ => ?_)
  have hst : PO X (some (.UnaryOp .USub (.Constant (.int 1) k p1) p2)) (tPart (tUn (rU fun i => .int (-i)) (tC (.int 1)))) := po_some (pe_un un_neg pe_int)
  refine wpAny_Slice ?_
  rw [evalPart_none]
  refine wpAny_pure (wpAny_pure (thn (hst.run pins s1 σ H1 (fun o H4 => o = some (-1) ∧ H4 = H1) I1 ⟨1, rfl, -1, rfl, rfl, rfl⟩) fun vs s4 ⟨o, H4, I4, ps, eo, e4⟩ => ?_))
  subst eo e4
  have I5 : Inv X pins σ H4 { s4 with heap := s4.heap.push { cls := .type "slice", data := .fields #[.none, .none, vs] } } := I4.kept (t' := s4.toks) fun b ob q => Heap.get?_push_of_some _ q
  obtain ⟨T, id, hT, ht, hg⟩ := hr pins { s4 with heap := s4.heap.push { cls := .type "slice", data := .fields #[.none, .none, vs] } } σ H4 x v vs s4.heap.objs.size Q I5 r1 (Heap.IsSliceOf.new ..) ps q1
  show wpAny (model X.prog X.w) X.A (subscriptTail e (.Slice none none (some (.UnaryOp .USub (.Constant (.int 1) k p1) p2)) p3) v (.ref s4.heap.objs.size)) (EP X pins σ Q) X.xe { s4 with heap := s4.heap.push { cls := .type "slice", data := .fields #[.none, .none, vs] } }
  exact tail_any (ops := [v, .ref s4.heap.objs.size]) ht hT hg (by with_unfolding_all rfl)
theorem rv_lst : RvR X (fun x H Q => ∃ a xs, x = .ref a ∧ SqL X.K H a xs ∧ ∀ p, H p = none → Q (.ref p) (upd H p (.lst xs.reverse))) := by
  intro pins s σ H x v vs sl Q I rx hs ps h
  obtain ⟨a, xs, rfl, hx, q⟩ := h
  cases rx
  obtain ⟨its, r, ht, hz⟩ := I.list hx
  have hlen := r.length
  refine ⟨"list", _, slot_list_getitem.lookup, ht.isList.typeIs, wpAny_getItem_list_slice ht.isList hs .none .none ps (by decide) ?_ (by rw [List.size_toArray]; omega)⟩
  rw [PySem.W.krv_pick]
  refine ⟨.ref _, _, I.laid (t' := s.toks) (o := .lst xs.reverse) (fun b ob q => Heap.get?_push_of_some _ q) (Nat.le_refl _) ⟨by rw [List.length_reverse]; exact hz, _, 0, r.reverse, Heap.get?_push_size _ rfl⟩, rfl, q _ (I.hok.fresh (Nat.le_refl _))⟩
theorem rv_tup : RvR X (fun x H Q => ∃ a xs, x = .ref a ∧ SqT X.K H a xs ∧ ∀ p, H p = none → Q (.ref p) (upd H p (.tup xs.reverse))) := by
  intro pins s σ H x v vs sl Q I rx hs ps h
  obtain ⟨a, xs, rfl, hx, q⟩ := h
  cases rx
  obtain ⟨its, r, ht, hz⟩ := I.tuple hx
  have hlen : its.toArray.size = xs.length := by rw [List.size_toArray]; exact r.length.symm
  refine ⟨"tuple", _, PyProof.Rows.slot_tuple_getitem.lookup, ht.typeIs, getItem_tup_rev ht hs ps ?_ (by rw [hlen]; exact hz)⟩
  exact ⟨.ref s.heap.objs.size, _, I.laid (t' := s.toks) (o := .tup xs.reverse) (fun b ob q => Heap.get?_push_of_some _ q) (Nat.le_refl _) ⟨by rw [List.length_reverse]; exact hz, _, r.reverse, IsTup.new _ _⟩, rfl, q _ (I.hok.fresh (Nat.le_refl _))⟩
theorem allN {α : Type} (xs : Array α) : (List.range xs.size).filterMap (xs[·]?) = xs.toList := PySem.W.krv_all xs
theorem rv_str : RvR X (fun x H Q => ∃ z, x = .str z ∧ z.length ≤ sizeLine ∧ Q (.str ⟨z.cps.toList.reverse.toArray⟩) H) := by
  intro pins s σ H x v vs sl Q I rx hs ps h
  obtain ⟨z, rfl, hz, q⟩ := h
  obtain ⟨t, rfl⟩ := rx
  obtain ⟨os, hos, hcs, hds⟩ := hs
  obtain ⟨u, rfl, hu⟩ := IsPart.raw ps
  refine ⟨"str", _, F.slot_str_getitem.lookup, typeIs_str _ _ _, ?_⟩
  have h1 : (u.map (·.1)) = some (-1) := by first | exact hu | exact hu.symm
  refine wpAny_getItem_str_slice (l := none) (u := none) (st := u) ⟨os, hos, hcs, hds⟩ (by rw [h1]; decide) ?_
  have e : (slicePicked z none none u).filterMap (z.cps[·]?) = z.cps.toList.reverse := by
    unfold slicePicked
    rw [h1]
    show (sliceRange ((z.length : Int) - 1) (-1) (-1)).filterMap (z.cps[·]?) = _
    rw [PySem.W.krv_sliceRange, show z.length = z.cps.size from rfl, PySem.W.krv_range, List.filterMap_reverse, allN]
  unfold sliceMade
  rw [h1, e, if_neg (by rw [show ((some (-1 : Int)).getD 1 == 1) = false by decide, Bool.false_and]; exact Bool.false_ne_true)]
  exact ⟨by show z.cps.toList.reverse.toArray.size ≤ sizeLine; rw [List.size_toArray, List.length_reverse]; exact hz, .str _, H, I.tok _, ⟨_, rfl⟩, q⟩
end
end Py
/-! enumerate and zip over lists, tuples and texts. -/
namespace Py
open PySem PySem.Spec PyProof.Rows L2
inductive SK where
  | lst (a : Addr) | tup (a : Addr) | txt (x : Str) (t : Tok)
def SK.it (it : Addr) (i : Nat) (h : Heap) : SK → Prop
  | .lst a => h.IsListIter it a i
  | .tup a => h.IsTupleIter it a i
  | .txt x t => h.IsStrIter it (strIterType x) x t i
def SK.fp (it : Addr) : SK → List Addr
  | .lst a => [it, a]
  | .tup a => [it, a]
  | .txt _ _ => [it]
def SK.con (its : Array Value) (h : Heap) : SK → Prop
  | .lst a => h.IsList a its
  | .tup a => h.IsTuple a its
  | .txt _ _ => True
def SK.P (its : Array Value) (i : Nat) (v : Value) : SK → Prop
  | .lst _ => its[i]? = some v
  | .tup _ => its[i]? = some v
  | .txt x _ => ∃ c u, x.cps[i]? = some c ∧ v = .str ⟨#[c]⟩ u
def SK.n (its : Array Value) : SK → Nat
  | .lst _ => its.size
  | .tup _ => its.size
  | .txt x _ => x.cps.size
def charsV (x : Str) : List V := x.cps.toList.map fun c => V.str ⟨#[c]⟩
def SK.xs (K : PySem.W.Frag) (H : Hp) (xs : List V) : SK → Prop
  | .lst a => SqL K H a xs
  | .tup a => SqT K H a xs
  | .txt x _ => xs = charsV x
/-- the walked thing's own address -/
def SK.src : SK → Option Addr
  | .lst a => some a
  | .tup a => some a
  | .txt _ _ => none
def SK.val : SK → Value
  | .lst a => .ref a
  | .tup a => .ref a
  | .txt x t => .str x t
def SK.obj : SK → Obj
  | .lst a => { cls := .type "list_iterator", data := .fields #[.ref a, .int 0 0] }
  | .tup a => { cls := .type "tuple_iterator", data := .fields #[.ref a, .int 0 0] }
  | .txt x t => { cls := .type (strIterType x), data := .fields #[.str x t, .int 0 0] }
theorem SK.begins (k : SK) (its : Array Value) : Begins k.val k.obj (fun h => k.con its h) := by
  cases k with
  | lst a => exact begins_list a its
  | tup a => exact begins_tuple a its
  | txt x t => exact begins_text x t
theorem SK.it0 (k : SK) {it : Addr} {h : Heap} (e : h.get? it = some k.obj) : k.it it 0 h := by
  cases k <;> exact ⟨_, e, rfl, rfl⟩
theorem SK.it_ob (k : SK) {it : Addr} {i : Nat} {h : Heap} (x : k.it it i h) : ∃ o, h.get? it = some o ∧ ∀ v, o.data ≠ .cell v := by
  cases k <;> (obtain ⟨o, ho, hc, hd⟩ := x; exact ⟨o, ho, fun v q => by rw [hd] at q; cases q⟩)
theorem SK.it_at (k : SK) {it : Addr} {i : Nat} {h h' : Heap} (x : k.it it i h) (e : ∀ o, h.get? it = some o → h'.get? it = some o) : k.it it i h' := by
  cases k <;> (obtain ⟨o, ho, r⟩ := x; exact ⟨o, e o ho, r⟩)
theorem SK.draws {prog : Program} {w : World} {A : Around} (hh : A.handled = none) (k : SK) (it : Addr) (its : Array Value) (hne : ∀ a, k.src = some a → a ≠ it) :
    Draws prog w A it (k.fp it) (k.n its) (fun i v => k.P its i v) (fun i h => k.it it i h ∧ k.con its h) := by
  cases k with
  | lst a => exact Draws.list hh it a (hne a rfl) its
  | tup a => exact Draws.tuple hh it a (hne a rfl) its
  | txt x t =>
    have D := Draws.text (prog := prog) (w := w) hh it x t
    exact { live := fun i h s => D.live i h s.1
            frame := fun i h h' s k => ⟨D.frame i h h' s.1 k, trivial⟩
            item := fun i s Q E hi s1 hQ => D.item i s Q E hi s1.1 fun x h' tk p q r => hQ x h' tk p ⟨q, trivial⟩ r
            done := fun s Q E s1 hE => D.done s Q E s1.1 hE }
section
variable {X : Cx} {pins : List (Addr × Obj)} {σ : L2.St} {H : Hp} {s : Shared}
theorem SK.ok (k : SK) (I : Inv X pins σ H s) {xs : List V} (h : k.xs X.K H xs) : ∃ its, k.con its s.heap ∧ k.n its = xs.length ∧ ∀ i v, k.P its i v → ∃ y, xs[i]? = some y ∧ RelV y v := by
  have key0 : ∀ {xs : List V} {its : List Value}, Vals xs its → ∀ (i : Nat) (v : Value), its[i]? = some v → ∃ y, xs[i]? = some y ∧ RelV y v := fun {xs its} rv => by
    induction rv with
    | nil => intro i v e; simp at e
    | cons r t ih =>
      intro i v e
      cases i with
      | zero => simp at e; subst e; exact ⟨_, rfl, r⟩
      | succ i => obtain ⟨y, h1, h2⟩ := ih i v (by simpa using e); exact ⟨y, by simpa using h1, h2⟩
  have key : ∀ {its : List Value}, Vals xs its → ∀ (i : Nat) (v : Value), its.toArray[i]? = some v → ∃ y, xs[i]? = some y ∧ RelV y v := fun {its} rv i v e => key0 rv i v (by simpa using e)
  cases k with
  | lst a =>
    obtain ⟨its, rv, p, hz⟩ := I.list h
    exact ⟨its.toArray, p.isList, by simpa [SK.n] using rv.length.symm, key rv⟩
  | tup a =>
    obtain ⟨its, rv, p, hz⟩ := I.tuple h
    exact ⟨its.toArray, p, by simpa [SK.n] using rv.length.symm, key rv⟩
  | txt x t =>
    cases h
    refine ⟨#[], trivial, by simp [SK.n, charsV], fun i v ⟨c, u, h1, h2⟩ => ⟨.str ⟨#[c]⟩, ?_, ⟨u, h2⟩⟩⟩
    unfold charsV
    rw [List.getElem?_map, Array.getElem?_toList, h1]; rfl
theorem SK.inj (k : SK) (I : Inv X pins σ H s) {xs ys : List V} (h : k.xs X.K H xs) (h' : k.xs X.K H ys) : xs = ys := by
  cases k with
  | lst a => exact I.list_inj h h'
  | tup a => exact I.tuple_inj h h'
  | txt x t => cases h; cases h'; rfl
/-- an iterator's cell is not what is walked -/
theorem SK.apart (k : SK) (I : Inv X pins σ H s) {xs : List V} (h : k.xs X.K H xs) {b : Addr} (hf : FpOk X pins H b) : ∀ a, k.src = some a → a ≠ b := by
  have key : ∀ {a : Addr} {o : Obj}, X.K.lookup a = some o → a ≠ b := fun {a o} hk e => by
    subst e
    have h1 := I.ok.mod.kin a o hk
    rcases hf.2.2.2.1 with z | z
    · exact I.ok.noex a o h1 z
    · exact absurd (Heap.lt_size (I.ok.bs a o h1).1) (Nat.not_lt.mpr z)
  intro a e
  cases k with
  | lst p =>
    cases e
    rcases h with (h | ⟨o, h⟩) | ⟨o, its, n, h, _⟩
    · intro e; subst e; rw [hf.1] at h; cases h
    · intro e; subst e; rw [hf.1] at h; cases h
    · exact key h
  | tup p =>
    cases e
    rcases h with (h | ⟨o, h⟩) | ⟨o, its, n, h, _⟩
    · intro e; subst e; rw [hf.1] at h; cases h
    · intro e; subst e; rw [hf.1] at h; cases h
    · exact key h
  | txt x t => cases e
end
/-! ### enumerate -/
def IteS (K : PySem.W.Frag) (k : SK) : It :=
  ⟨fun i H => ∃ xs : List V, k.xs K H xs ∧ i < xs.length, fun i H v H' => ∃ T x, v = .ref T ∧ H T = none ∧ H' = upd H T (.tup [.int (i : Nat), x]) ∧ ∀ xs, k.xs K H xs → xs[i]? = some x, fun i H => ∃ xs : List V, k.xs K H xs ∧ xs.length = i⟩
theorem new2 {P : Program} {w : World} {H : Hp} {h : Heap} {T : Addr} {x y : V} {u v : Value} (hT : h.IsTuple T #[u, v]) (ru : RelV x u) (rv : RelV y v) : ObjOk P w (upd H T (.tup [x, y])) h T (.tup [x, y]) :=
  ⟨by show 2 ≤ sizeLine; decide, [u, v], .cons ru (.cons rv .nil), hT⟩
theorem turn_enumS {P : Program} {w : World} {K : PySem.W.Frag} {elts : List Expr} {kk : Nat} {tpos : Pos} (k : SK) (e it : Addr) :
    Turn P w K (.Tuple elts kk tpos) (IteS K k) [e, it] e (fun i h => (∃ old, IsEnum h e it ((i : Nat) : Int) old) ∧ k.it it i h ∧ e ≠ it) where
  mem := by simp
  obj := fun i h st b hb => by
    obtain ⟨⟨old, he⟩, hi, _⟩ := st
    have e' : b = e ∨ b = it := by simpa using hb
    rcases e' with z | z
    · rw [z]; exact ⟨_, he, fun v q => nomatch q⟩
    · rw [z]; exact k.it_ob hi
  keep := fun i h h' st kp => let ⟨⟨old, he⟩, hi, hne⟩ := st; ⟨⟨old, kp e (by simp) _ he⟩, k.it_at hi fun o q => kp it (by simp) o q, hne⟩
  item := by
    intro X hP hw hK hc i pins s σ H E I hf st hg
    subst hP hw hK
    obtain ⟨⟨old, he⟩, hit, hne⟩ := st
    obtain ⟨xs, hq, hi⟩ := hg
    obtain ⟨its, hcon, hn, hval⟩ := k.ok I hq
    have ap := k.apart I hq (hf it (by simp))
    have ape := k.apart I hq (hf e (by simp))
    have D := k.draws (prog := X.prog) (w := X.w) (A := X.A.in1) (I.ok.hd hc) it its ap
    have hef : e ∉ k.fp it := fun z => by
      cases k with
      | lst a => rcases List.mem_cons.mp z with z | z; exact hne z; exact ape a rfl (List.mem_singleton.mp z).symm
      | tup a => rcases List.mem_cons.mp z with z | z; exact hne z; exact ape a rfl (List.mem_singleton.mp z).symm
      | txt x t => exact hne (List.mem_singleton.mp z)
    have hif : it ∈ k.fp it := by cases k <;> simp [SK.fp]
    have he' : IsEnum s.heap e it (0 + (i : Int)) old := by rw [Int.zero_add]; exact he
    refine thn ((GoesN.enumFrom (elts := elts) (x1 := kk) (pos := tpos) 0 D e hne hef hif).goes i s _ _ (by rw [hn]; exact hi) ⟨⟨old, he'⟩, hit, hcon⟩ ?_) fun r s1 h => h
    rintro v h' tk ⟨T, t, x, rfl, hnew, hP, hT⟩ ⟨⟨old', he2⟩, hit2, hcon2⟩ hk _
    obtain ⟨y, hy, ry⟩ := hval i x hP
    have I1 : Inv X pins σ (upd H T (.tup [.int (i : Nat), y])) { s with heap := h', toks := tk } :=
      I.turnedNew (ch := [e, it]) hk hf hnew (new2 hT ⟨_, by rw [Int.zero_add]⟩ ry)
    refine ⟨.ref T, _, I1, rfl, ⟨T, y, rfl, I.hok.fresh hnew, rfl, fun ys hy' => by rw [k.inj I hy' hq]; exact hy⟩, ⟨⟨old', ?_⟩, hit2, hne⟩, fun b hb => ?_⟩
    · have : (0 : Int) + ((i + 1 : Nat) : Int) = ((i + 1 : Nat) : Int) := Int.zero_add _
      rw [this] at he2; exact he2
    · have hbl : b < s.heap.objs.size := by
        have e' : b = e ∨ b = it := by simpa using hb
        rcases e' with z | z
        · rw [z]; exact Heap.lt_size he
        · rw [z]; obtain ⟨o, ho, _⟩ := k.it_ob hit; exact Heap.lt_size ho
      rw [upd_ne (Nat.ne_of_lt (Nat.lt_of_lt_of_le hbl hnew))]
      exact (hf b hb).1
  done := by
    intro X hP hw hK hc i pins s σ H E I hf st hg
    subst hP hw hK
    obtain ⟨⟨old, he⟩, hit, hne⟩ := st
    obtain ⟨xs, hq, hi⟩ := hg
    obtain ⟨its, hcon, hn, hval⟩ := k.ok I hq
    have ap := k.apart I hq (hf it (by simp))
    have D := k.draws (prog := X.prog) (w := X.w) (A := X.A.in1) (I.ok.hd hc) it its ap
    have hi' : i = k.n its := hi.symm.trans hn.symm
    obtain ⟨f0, f1, f2, f3, f4, f5⟩ := hf it (by simp)
    exact wpAny_pyNext_enum_endD D he ⟨hi' ▸ hit, hcon⟩ fun h' eb => ⟨rfl, I.turned (t' := s.toks) (fun b o hb q => eb b o hb q) f0 f1 f3 f4 f5⟩
  self := fun A i s Q E st h => let ⟨⟨_, he⟩, _⟩ := st; wpAny_pyIter_enum he h
end Py
/-! zip over any two; what begins an enumerate, a zip. -/
namespace Py
open PySem PySem.Spec PyProof.Rows L2
def ItzS (K : PySem.W.Frag) (k1 k2 : SK) : It :=
  ⟨fun i H => ∃ xs ys : List V, k1.xs K H xs ∧ k2.xs K H ys ∧ i < xs.length ∧ i < ys.length,
   fun i H v H' => ∃ T x y, v = .ref T ∧ H T = none ∧ H' = upd H T (.tup [x, y]) ∧ (∀ xs, k1.xs K H xs → xs[i]? = some x) ∧ ∀ ys, k2.xs K H ys → ys[i]? = some y,
   fun i H => ∃ xs ys : List V, k1.xs K H xs ∧ k2.xs K H ys ∧ i = min xs.length ys.length⟩
structure Cells (z TI TO i1 i2 : Addr) : Prop where
  TIz : TI ≠ z
  TOz : TO ≠ z
  TITO : TI ≠ TO
  TIi1 : TI ≠ i1
  TIi2 : TI ≠ i2
  zi1 : z ≠ i1
  zi2 : z ≠ i2
  TOi1 : TO ≠ i1
  TOi2 : TO ≠ i2
  i12 : i1 ≠ i2
theorem SK.notIn (k : SK) {b it : Addr} (h : b ≠ it) (ap : ∀ a, k.src = some a → a ≠ b) : b ∉ k.fp it := fun z => by
  cases k with
  | lst a => rcases List.mem_cons.mp z with z | z; exact h z; exact ap a rfl (List.mem_singleton.mp z).symm
  | tup a => rcases List.mem_cons.mp z with z | z; exact h z; exact ap a rfl (List.mem_singleton.mp z).symm
  | txt x t => exact h (List.mem_singleton.mp z)
theorem SK.itIn (k : SK) (it : Addr) : it ∈ k.fp it := by cases k <;> simp [SK.fp]
theorem turn_zipS {P : Program} {w : World} {K : PySem.W.Frag} {elts : List Expr} {kk : Nat} {tpos : Pos} (k1 k2 : SK) {z TI TO i1 i2 : Addr} (C : Cells z TI TO i1 i2) :
    Turn P w K (.Tuple elts kk tpos) (ItzS K k1 k2) [z, TI, TO, i1, i2] z (fun i h => IsZip h z TI TO .none ∧ IsTupOf2 h TI (.ref i1) (.ref i2) ∧ (∃ x y, IsTupOf2 h TO x y) ∧ k1.it i1 i h ∧ k2.it i2 i h) where
  mem := by simp
  obj := fun i h st c hc => by
    obtain ⟨hz, hTI, ⟨x, y, hTO⟩, h1, h2⟩ := st
    have e' : c = z ∨ c = TI ∨ c = TO ∨ c = i1 ∨ c = i2 := by simpa using hc
    rcases e' with q | q | q | q | q
    · rw [q]; exact ⟨_, hz, fun v q => nomatch q⟩
    · rw [q]; exact ⟨_, hTI, fun v q => nomatch q⟩
    · rw [q]; exact ⟨_, hTO, fun v q => nomatch q⟩
    · rw [q]; exact k1.it_ob h1
    · rw [q]; exact k2.it_ob h2
  keep := fun i h h' st k => by
    obtain ⟨hz, hTI, ⟨x, y, hTO⟩, h1, h2⟩ := st
    exact ⟨k z (by simp) _ hz, k TI (by simp) _ hTI, ⟨x, y, k TO (by simp) _ hTO⟩, k1.it_at h1 fun o q => k i1 (by simp) o q, k2.it_at h2 fun o q => k i2 (by simp) o q⟩
  item := by
    intro X hP hw hK hc i pins s σ H E I hf st hg
    subst hP hw hK
    obtain ⟨hz, hTI, hTO, h1, h2⟩ := st
    obtain ⟨xs, ys, hq1, hq2, hi1, hi2⟩ := hg
    obtain ⟨its1, con1, n1, val1⟩ := k1.ok I hq1
    obtain ⟨its2, con2, n2, val2⟩ := k2.ok I hq2
    have S : ZipSep2 z TI TO i1 i2 (k1.fp i1) (k2.fp i2) :=
      ⟨C.TIz, C.TOz, C.TITO, C.TIi1, k1.itIn _, k1.notIn C.zi1 (k1.apart I hq1 (hf z (by simp))), k1.notIn C.TOi1 (k1.apart I hq1 (hf TO (by simp))), C.TIi2, k2.itIn _, k2.notIn C.zi2 (k2.apart I hq2 (hf z (by simp))), k2.notIn C.TOi2 (k2.apart I hq2 (hf TO (by simp))),
        k2.notIn C.i12 (k2.apart I hq2 (hf i1 (by simp))), k1.notIn (Ne.symm C.i12) (k1.apart I hq1 (hf i2 (by simp)))⟩
    have D1 := k1.draws (prog := X.prog) (w := X.w) (A := X.A.in1) (I.ok.hd hc) i1 its1 (k1.apart I hq1 (hf i1 (by simp)))
    have D2 := k2.draws (prog := X.prog) (w := X.w) (A := X.A.in1) (I.ok.hd hc) i2 its2 (k2.apart I hq2 (hf i2 (by simp)))
    refine thn ((GoesN.zip2 (elts := elts) (x1 := kk) (pos := tpos) S D1 D2).goes i s _ _ (by rw [n1, n2]; omega) ⟨hz, hTI, hTO, ⟨h1, con1⟩, ⟨h2, con2⟩⟩ ?_) fun r s1 h => h
    rintro v h' tk ⟨T, u1, u2, rfl, hnew, hP1, hP2, hT⟩ ⟨hz2, hTI2, hTO2, ⟨h1', _⟩, ⟨h2', _⟩⟩ hk _
    obtain ⟨y1, e1, r1⟩ := val1 i u1 hP1
    obtain ⟨y2, e2, r2⟩ := val2 i u2 hP2
    have I1 : Inv X pins σ (upd H T (.tup [y1, y2])) { s with heap := h', toks := tk } :=
      I.turnedNew (ch := [z, TI, TO, i1, i2]) (fun b o hb e => hk b o (fun q => hb (by
        have q' : b = z ∨ b = TO ∨ b = i1 ∨ b = i2 := by simpa using q
        rcases q' with q | q | q | q <;> simp [q])) e) hf hnew (new2 hT r1 r2)
    refine ⟨.ref T, _, I1, rfl, ⟨T, y1, y2, rfl, I.hok.fresh hnew, rfl, fun l hl => by rw [k1.inj I hl hq1]; exact e1, fun l hl => by rw [k2.inj I hl hq2]; exact e2⟩, ⟨hz2, hTI2, hTO2, h1', h2'⟩, fun c hcm => ?_⟩
    have hlt : c < s.heap.objs.size := by
      have e' : c = z ∨ c = TI ∨ c = TO ∨ c = i1 ∨ c = i2 := by simpa using hcm
      obtain ⟨_, _, hTO⟩ := hTO
      rcases e' with q | q | q | q | q
      · rw [q]; exact Heap.lt_size hz
      · rw [q]; exact Heap.lt_size hTI
      · rw [q]; exact Heap.lt_size hTO
      · rw [q]; obtain ⟨o, ho, _⟩ := k1.it_ob h1; exact Heap.lt_size ho
      · rw [q]; obtain ⟨o, ho, _⟩ := k2.it_ob h2; exact Heap.lt_size ho
    rw [upd_ne (Nat.ne_of_lt (Nat.lt_of_lt_of_le hlt hnew))]
    exact (hf c hcm).1
  done := by
    intro X hP hw hK hc i pins s σ H E I hf st hg
    subst hP hw hK
    obtain ⟨hz, hTI, hTO, h1, h2⟩ := st
    obtain ⟨xs, ys, hq1, hq2, hi⟩ := hg
    obtain ⟨its1, con1, n1, val1⟩ := k1.ok I hq1
    obtain ⟨its2, con2, n2, val2⟩ := k2.ok I hq2
    have S : ZipSep2 z TI TO i1 i2 (k1.fp i1) (k2.fp i2) :=
      ⟨C.TIz, C.TOz, C.TITO, C.TIi1, k1.itIn _, k1.notIn C.zi1 (k1.apart I hq1 (hf z (by simp))), k1.notIn C.TOi1 (k1.apart I hq1 (hf TO (by simp))), C.TIi2, k2.itIn _, k2.notIn C.zi2 (k2.apart I hq2 (hf z (by simp))), k2.notIn C.TOi2 (k2.apart I hq2 (hf TO (by simp))),
        k2.notIn C.i12 (k2.apart I hq2 (hf i1 (by simp))), k1.notIn (Ne.symm C.i12) (k1.apart I hq1 (hf i2 (by simp)))⟩
    have D1 := k1.draws (prog := X.prog) (w := X.w) (A := X.A.in1) (I.ok.hd hc) i1 its1 (k1.apart I hq1 (hf i1 (by simp)))
    have D2 := k2.draws (prog := X.prog) (w := X.w) (A := X.A.in1) (I.ok.hd hc) i2 its2 (k2.apart I hq2 (hf i2 (by simp)))
    have hi' : i = min (k1.n its1) (k2.n its2) := by rw [n1, n2]; exact hi
    refine (GoesN.zip2 (elts := elts) (x1 := kk) (pos := tpos) S D1 D2).stops s (fun s1 => Inv X pins σ H s1) _ (by rw [← hi']; exact ⟨hz, hTI, hTO, ⟨h1, con1⟩, ⟨h2, con2⟩⟩) fun h' tk hk _ => ?_
    exact I.turnedL (t' := tk) (ch := [z, TI, TO, i1, i2]) (fun b o hb e => hk b o (fun q => hb (by
      have q' : b = z ∨ b = TO ∨ b = i1 ∨ b = i2 := by simpa using q
      rcases q' with q | q | q | q <;> simp [q])) e) hf
  self := fun A i s Q E st h => wpAny_pyIter_zip st.1 h

/-! ### enumerate(v) begins -/
set_option maxHeartbeats 1000000 in
theorem meets_enum1 {v : Value} {o : Obj} {H : Heap → Prop} (B : Begins v o H) :
    Meets (Builtin.«enumerate.__new__» ⟨[.type "enumerate", v], []⟩) (fun _ R s => H s.heap ∧
      R (.ok (.ret (.ref (s.heap.push o).objs.size))) { s with heap := (s.heap.push o).push { cls := .type "enumerate", data := .fields #[.none, .bool false, .ref s.heap.objs.size, rawInt 0, .none, .none] } }) :=
  .of_wp fun prog w A R s h => by
    obtain ⟨hp, g, d, tk, os⟩ := s; obtain ⟨h1, h⟩ := h
    have hsub := sub_enumerate
    have q1 : ∀ {A' : Around} {E : Value → Shared → Prop} {Q : Value → Shared → Prop}, Q (.ref hp.objs.size) ⟨hp.push o, g, d, tk, os⟩ → wpAny (model prog w) A' (pyIter v) Q E ⟨hp, g, d, tk, os⟩ :=
      fun q => B.iter prog w _ _ ⟨hp, g, d, tk, os⟩ _ h1 q
    wp_walk using q1
    refine wpAny_stack_any fun st => wpAny_pure ?_
    split
    · rename_i c _ _ _ _ _
      cases (c == Value.type "enumerate")
      · wp_walk using q1
        exact ⟨_, rfl, h⟩
      · wp_walk using q1
        exact ⟨_, rfl, h⟩
    · wp_walk using q1
      exact ⟨_, rfl, h⟩
section
variable {prog : Program} {w : World} {A : Around} {E : Value → Shared → Prop} {s : Shared}
theorem enum_begins1 {v : Value} {o : Obj} {H : Heap → Prop} {Q : Value → Shared → Prop} (B : Begins v o H) (h1 : H s.heap)
    (h : ∀ h', IsEnum h' (s.heap.objs.size + 1) s.heap.objs.size 0 .none → h'.get? s.heap.objs.size = some o → (∀ b o, s.heap.get? b = some o → h'.get? b = some o) → Q (.ref (s.heap.objs.size + 1)) { s with heap := h' }) :
    wpAny (model prog w) A (call (.type "enumerate") [v]) Q E s := by
  refine callType_new F.called_enumerate (by decide) (F.typeCall_enumerate_1 _) (F.newCall_enumerate_1 _) (fun obj => F.args_object_init_2 obj _) F.entry_enumerate_new (meets_enum1 B) ⟨h1, ?_⟩
  have hz : (s.heap.push o).objs.size = s.heap.objs.size + 1 := Heap.size_push ..
  show _ ∧ _
  rw [hz]
  have he : IsEnum ((s.heap.push o).push { cls := .type "enumerate", data := .fields #[.none, .bool false, .ref s.heap.objs.size, rawInt 0, .none, .none] }) (s.heap.objs.size + 1) s.heap.objs.size 0 .none := by
    have := Heap.get?_push_size (s.heap.push o) (o := { cls := .type "enumerate", data := .fields #[.none, .bool false, .ref s.heap.objs.size, rawInt 0, .none, .none] }) rfl
    rw [hz] at this; exact this
  exact ⟨⟨_, he, rfl⟩, h _ he (Heap.get?_push_of_some _ (Heap.get?_push_size _ B.free)) fun b o x => Heap.get?_push_of_some _ (Heap.get?_push_of_some _ x)⟩
end
/-! ### by values -/
section
variable {X : Cx} {pins : List (Addr × Obj)} {σ : L2.St} {H : Hp} {s : Shared}
/-- what a value is, to be walked -/
def Wlk (K : PySem.W.Frag) (H : Hp) (v : V) (k : SK) (xs : List V) : Prop := k.xs K H xs ∧ match v, k with
  | .ref a, .lst b => a = b
  | .ref a, .tup b => a = b
  | .str x, .txt y _ => x = y
  | _, _ => False
/-- sources by values -/
inductive VS where
  | lst (a : Addr) | tup (a : Addr) | txt (x : Str)
def VS.v : VS → V
  | .lst a => .ref a
  | .tup a => .ref a
  | .txt x => .str x
def VS.xs (K : PySem.W.Frag) (H : Hp) (xs : List V) : VS → Prop
  | .lst a => SqL K H a xs
  | .tup a => SqT K H a xs
  | .txt x => xs = charsV x
/-- the iterator's turns, told by values -/
def VS.sk : VS → SK
  | .lst a => .lst a
  | .tup a => .tup a
  | .txt x => .txt x 0
def SK.vs : SK → VS
  | .lst a => .lst a
  | .tup a => .tup a
  | .txt x _ => .txt x
theorem VS.rel {k : VS} {u : Value} (r : RelV k.v u) : ∃ sk : SK, sk.vs = k ∧ sk.val = u := by
  cases k with
  | lst a => cases r; exact ⟨.lst a, rfl, rfl⟩
  | tup a => cases r; exact ⟨.tup a, rfl, rfl⟩
  | txt x => obtain ⟨t, rfl⟩ := r; exact ⟨.txt x t, rfl, rfl⟩
theorem SK.xs_vs {K : PySem.W.Frag} {H : Hp} {xs : List V} (k : SK) : k.xs K H xs ↔ k.vs.xs K H xs := by cases k <;> exact Iff.rfl
theorem SK.sk_xs {K : PySem.W.Frag} {H : Hp} {xs : List V} (k : SK) : k.vs.sk.xs K H xs ↔ k.xs K H xs := by cases k <;> exact Iff.rfl
theorem iteS_vs {K : PySem.W.Frag} (k : SK) : IteS K k = IteS K k.vs.sk := by cases k <;> rfl
theorem itzS_vs {K : PySem.W.Frag} (k1 k2 : SK) : ItzS K k1 k2 = ItzS K k1.vs.sk k2.vs.sk := by cases k1 <;> cases k2 <;> rfl
def iEnumS (K : PySem.W.Frag) (ta : TA) : TI := fun σ H R => ta σ H fun vs H1 => ∃ (k : VS) (xs : List V), vs = [k.v] ∧ k.xs K H1 xs ∧ R (IteS K k.sk) H1
theorem pi_enumS {e : Expr} {ta : TA} {p pos tpos : Pos} {elts : List Expr} {kk : Nat} (hg : Gl X "enumerate") (hm : X.mg "enumerate" = none) (ha : PA X [e] ta) (hs : starEach [e] X.env = [(false, eval e X.env)]) :
    PI X (.Tuple elts kk tpos) (.Call (.Name "enumerate" p) [e] [] pos) (iEnumS X.K ta) := by
  refine ⟨fun pins s σ H R I h => ?_⟩
  refine Call_ (ld_blt I hg hm boot_enumerate (PyProof.Rows.callWith_type1 (thn (ha.run pos pins s σ H _ I h) fun us s1 ⟨vs, H1, I1, r1, q1⟩ => ?_) hs rfl))
  obtain ⟨k, xs, ex, hq, q⟩ := q1
  subst ex
  obtain ⟨u, rfl, ru⟩ := r1.one
  obtain ⟨sk, rfl, rfl⟩ := VS.rel ru
  obtain ⟨its, con, _, _⟩ := sk.ok I1 (sk.xs_vs.mpr hq)
  refine enum_begins1 (sk.begins its) con fun h' he hit hk => wpAny_pyIter_enum he ?_
  have I2 : Inv X pins σ H1 { s1 with heap := h' } := I1.kept (t' := s1.toks) hk
  refine ⟨s1.heap.objs.size + 1, [s1.heap.objs.size + 1, s1.heap.objs.size], _, _, H1, rfl, I2, turn_enumS sk (s1.heap.objs.size + 1) s1.heap.objs.size, ⟨⟨.none, he⟩, sk.it0 hit, Nat.succ_ne_self _⟩, fun b hb => ?_, by rw [iteS_vs]; exact q⟩
  have e' : b = s1.heap.objs.size + 1 ∨ b = s1.heap.objs.size := by simpa using hb
  have hle : s1.heap.objs.size ≤ b := by
    rcases e' with z | z
    · rw [z]; exact Nat.le_add_right _ _
    · rw [z]; exact Nat.le_refl _
  exact I1.fpOk hle (I1.hok.fresh hle)
def iZipS (K : PySem.W.Frag) (ta : TA) : TI := fun σ H R => ta σ H fun vs H1 => ∃ (k1 k2 : VS) (xs ys : List V), vs = [k1.v, k2.v] ∧ k1.xs K H1 xs ∧ k2.xs K H1 ys ∧ R (ItzS K k1.sk k2.sk) H1
theorem pi_zipS {e e2 : Expr} {ta : TA} {p pos tpos : Pos} {elts : List Expr} {kk : Nat} (hg : Gl X "zip") (hm : X.mg "zip" = none) (ha : PA X [e, e2] ta)
    (hs : starEach [e, e2] X.env = (false, eval e X.env) :: starEach [e2] X.env) (hpl : (backTo pos (starEach [e2] X.env)).any (·.1) = false) :
    PI X (.Tuple elts kk tpos) (.Call (.Name "zip" p) [e, e2] [] pos) (iZipS X.K ta) := by
  refine ⟨fun pins s σ H R I h => ?_⟩
  refine Call_ (ld_blt I hg hm PyProof.Rows.boot_zip (PyProof.Rows.callWith_type1 (thn (ha.run pos pins s σ H _ I h) fun us s1 ⟨vs, H1, I1, r1, q1⟩ => ?_) hs hpl))
  obtain ⟨k1, k2, xs, ys, ex, hq1, hq2, q⟩ := q1
  subst ex
  obtain ⟨u1, u2, rfl, r1, r2⟩ := r1.two
  obtain ⟨s1', rfl, rfl⟩ := VS.rel r1
  obtain ⟨s2', rfl, rfl⟩ := VS.rel r2
  obtain ⟨its1, con1, _, _⟩ := s1'.ok I1 (s1'.xs_vs.mpr hq1)
  obtain ⟨its2, con2, _, _⟩ := s2'.ok I1 (s2'.xs_vs.mpr hq2)
  refine zip_begins2 (s1'.begins its1) (s2'.begins its2) con1 con2 fun h' hz hTI hTO g1 g2 hsz hk => wpAny_pyIter_zip hz ?_
  have I2 : Inv X pins σ H1 { s1 with heap := h' } := I1.kept (t' := s1.toks) hk
  refine ⟨s1.heap.objs.size + 4, [s1.heap.objs.size + 4, s1.heap.objs.size + 2, s1.heap.objs.size + 3, s1.heap.objs.size, s1.heap.objs.size + 1], _, _, H1, rfl, I2,
    turn_zipS s1' s2' (z := s1.heap.objs.size + 4) (TI := s1.heap.objs.size + 2) (TO := s1.heap.objs.size + 3) (i1 := s1.heap.objs.size) (i2 := s1.heap.objs.size + 1) ?_, ⟨hz, hTI, ⟨_, _, hTO⟩, s1'.it0 g1, s2'.it0 g2⟩, fun b hb => ?_, by rw [itzS_vs]; exact q⟩
  · constructor <;> (intro z; exact absurd z (by first | exact Nat.ne_of_gt (by omega) | exact Nat.ne_of_lt (by omega)))
  · have hle : s1.heap.objs.size ≤ b := by
      have e' : b = s1.heap.objs.size + 4 ∨ b = s1.heap.objs.size + 2 ∨ b = s1.heap.objs.size + 3 ∨ b = s1.heap.objs.size ∨ b = s1.heap.objs.size + 1 := by simpa using hb
      rcases e' with z | z | z | z | z <;> rw [z] <;> first | exact Nat.le_refl _ | exact Nat.le_add_right _ _
    exact I1.fpOk hle (I1.hok.fresh hle)
end
end Py
/-! Methods that change nothing; repr; sorted sets; sums. -/
namespace Py
open PySem PySem.Spec PyProof.Rows L2
open Classical
def Dn (d : D) : Nat := (toPy d).depth
def maxI : List Int → Option Int
  | [] => none
  | [n] => some n
  | n :: r => (maxI r).map fun m => if n < m then m else n
def minI : List Int → Option Int
  | [] => none
  | [n] => some n
  | n :: r => (minI r).map fun m => if m < n then m else n
theorem maxI_is : ∀ {l : List Int} {m : Int}, maxI l = some m → m ∈ l ∧ ∀ y ∈ l, y ≤ m
  | [n], m, h => by cases h; simp
  | n :: a :: r, m, h => by
    have h : (maxI (a :: r)).map (fun m => if n < m then m else n) = some m := h
    obtain ⟨k, hk, rfl⟩ := Option.map_eq_some_iff.mp h
    obtain ⟨h1, h2⟩ := maxI_is hk
    refine ⟨?_, fun y hy => ?_⟩
    · split
      · exact List.mem_cons_of_mem _ h1
      · exact List.mem_cons_self ..
    · rcases List.mem_cons.mp hy with rfl | hy
      · split <;> omega
      · have := h2 y hy
        split <;> omega
theorem minI_is : ∀ {l : List Int} {m : Int}, minI l = some m → m ∈ l ∧ ∀ y ∈ l, m ≤ y
  | [n], m, h => by cases h; simp
  | n :: a :: r, m, h => by
    have h : (minI (a :: r)).map (fun m => if m < n then m else n) = some m := h
    obtain ⟨k, hk, rfl⟩ := Option.map_eq_some_iff.mp h
    obtain ⟨h1, h2⟩ := minI_is hk
    refine ⟨?_, fun y hy => ?_⟩
    · split
      · exact List.mem_cons_of_mem _ h1
      · exact List.mem_cons_self ..
    · rcases List.mem_cons.mp hy with rfl | hy
      · split <;> omega
      · have := h2 y hy
        split <;> omega
def primX : Prim → List D → Option (D × Bool)
  | .repr, [d] => if okR 60 d && (toPy d).showable && decide ((toPy d).shown.length ≤ lim) then some (.str (toPy d).shown, false) else none
  | .sum, [.lst xs] => match asInts xs with
    | some ns => some (.int ns.sum, false)
    | none => none
  | .int, [.int i] => some (.int i, false)
  | .int, [.bl b] => some (.int (if b then 1 else 0), false)
  | .abs, [.int i] => some (.int (if i < 0 then -i else i), false)
  | .sorted, [.lst xs] => if xs.length < 64 then
      match asInts xs, asStrs xs with
      | some ns, _ => some (.lst ((srtI ns).map .int), true)
      | none, some zs => some (.lst ((srtS zs).map .str), true)
      | none, none => none
    else none
  | .list, [.str z] => if z.cps.size ≤ lim then some (.lst (chars z), true) else none
  | .tuple, [.str z] => if z.cps.size ≤ lim then some (.tup (chars z), false) else none
  | .list, [.fz xs] => some (.lst xs, true)
  | .max, [.lst xs] => match asInts xs with
    | some ns => match maxI ns with
      | some m => some (.int m, false)
      | none => none
    | none => none
  | .min, [.lst xs] => match asInts xs with
    | some ns => match minI ns with
      | some m => some (.int m, false)
      | none => none
    | none => none
  | .dict, [.lst xs] => match asPairs xs with
    | some ps => some (.dic (dictD ps), true)
    | none => none
  | p, ds => primF p ds
/-- list(text) -/
theorem vals_chars {x : Str} {acc : Array Value} (hi : ItemsOf (SignAt x) acc x.cps.size) : Vals (charsV x) acc.toList := by
  refine vals_of_idx _ _ (by rw [Array.length_toList, hi.1]; simp [charsV]) fun j u hj => ?_
  obtain ⟨c, t', hc, rfl⟩ := hi.2 j u (by rw [← Array.getElem?_toList]; exact hj)
  exact ⟨.str ⟨#[c]⟩, by simp [charsV, hc], ⟨_, rfl⟩⟩
theorem cr_listS {X : Cx} (hc : X.calm = true) : CallR X (.type "list") (fun xs H Q => ∃ z, xs = [V.str z] ∧ z.cps.size ≤ sizeLine ∧ ∀ p, H p = none → Q (.ref p) (upd H p (.lst (charsV z)))) := by
  intro pins s σ H xs us Q I r h
  obtain ⟨z, rfl, hz, q⟩ := h
  obtain ⟨u, rfl, rx⟩ := vals1 r
  obtain ⟨t, rfl⟩ := rx
  refine call_list_str (I.ok.hd hc) z t (hn := hz) fun h' tk acc c' hk e hi => ?_
  refine ⟨.ref s.heap.objs.size, _, I.laid hk (Nat.le_refl _) (show ObjOk X.prog X.w _ h' _ (.lst (charsV z)) from ⟨by simpa [charsV] using hz, acc.toList, c', vals_chars hi, by rw [Array.toArray_toList]; exact e⟩), rfl, q _ (I.hok.fresh (Nat.le_refl _))⟩
theorem cr_tupS {X : Cx} (hc : X.calm = true) : CallR X (.type "tuple") (fun xs H Q => ∃ z, xs = [V.str z] ∧ z.cps.size ≤ sizeLine ∧ ∀ p, H p = none → Q (.ref p) (upd H p (.tup (charsV z)))) := by
  intro pins s σ H xs us Q I r h
  obtain ⟨z, rfl, hz, q⟩ := h
  obtain ⟨u, rfl, rx⟩ := vals1 r
  obtain ⟨t, rfl⟩ := rx
  refine call_tuple_str (I.ok.hd hc) z t (hsz := hz) fun h' tk acc hk hi => ?_
  have I1 : Inv X pins σ H { s with heap := h', toks := tk } := I.kept (t' := tk) hk
  have I2 : Inv X pins σ (upd H h'.objs.size (.tup (charsV z))) { s with heap := h'.push { cls := .type "tuple", data := .seq acc }, toks := tk } :=
    I1.laid (t' := tk) (fun b o e => Heap.get?_push_of_some _ e) (Nat.le_refl _) (show ObjOk X.prog X.w _ _ _ (.tup (charsV z)) from ⟨by simpa [charsV] using hz, acc.toList, vals_chars hi, by rw [Array.toArray_toList]; exact IsTup.new _ _⟩)
  exact ⟨.ref h'.objs.size, _, I2, rfl, q _ (I1.hok.fresh (Nat.le_refl _))⟩
theorem dat_chars {G : Gb} {A : List Addr} {U : Hp} (z : Str) : DatL G A U (chars z) (charsV z) := by
  unfold chars charsV
  induction z.cps.toList with
  | nil => exact .nil
  | cons c r ih => exact .cons (.str _) ih
/-- the sorted set of keys of one kind -/
def ssetD : D → Option D
  | .str z => if z.cps.size + 1 < 64 then some (.lst ((srtS (seenK (z.cps.toList.map fun c => (⟨#[c]⟩ : Str)))).map .str)) else none
  | .lst xs => if xs.length + 1 < 64 then
      match asInts xs, asStrs xs with
      | some ns, _ => some (.lst ((srtI (seenK ns)).map .int))
      | none, some zs => some (.lst ((srtS (seenK zs)).map .str))
      | none, none => none
    else none
  | _ => none
section
variable {G : Gb} {W W0 W1 W2 W' : Wd} {σ : L2.St} {en en' en1 en2 en3 en4 : Stt} {d d' e r rd : D} {v u : V} {q q1 q2 q3 : Bool} {X : Cx} (hG : G.K = X.K) {fr : Bool} {a b : Expr} {tg : Expr} {ws ws1 ws2 : List Nat} {fl fl' : Fl} {p : Addr} {ds : List D}
theorem asStrs_map : ∀ {ds : List D} {zs : List Str}, asStrs ds = some zs → ds = zs.map D.str
  | [], _, h => by cases h; rfl
  | .str b :: r, bs, h => by
    unfold asStrs at h
    cases q : asStrs r with
    | none => rw [q] at h; cases h
    | some cs => rw [q] at h; cases h; rw [asStrs_map q]; rfl
  | .non :: _, _, h => nomatch h
  | .int _ :: _, _, h => nomatch h
  | .bl _ :: _, _, h => nomatch h
  | .tup _ :: _, _, h => nomatch h
  | .lst _ :: _, _, h => nomatch h
  | .dic _ :: _, _, h => nomatch h
  | .obj _ :: _, _, h => nomatch h
  | .fz _ :: _, _, h => nomatch h
theorem asInts_map : ∀ {ds : List D} {zs : List Int}, asInts ds = some zs → ds = zs.map D.int
  | [], _, h => by cases h; rfl
  | .int b :: r, bs, h => by
    unfold asInts at h
    cases q : asInts r with
    | none => rw [q] at h; cases h
    | some cs => rw [q] at h; cases h; rw [asInts_map q]; rfl
  | .non :: _, _, h => nomatch h
  | .str _ :: _, _, h => nomatch h
  | .bl _ :: _, _, h => nomatch h
  | .tup _ :: _, _, h => nomatch h
  | .lst _ :: _, _, h => nomatch h
  | .dic _ :: _, _, h => nomatch h
  | .obj _ :: _, _, h => nomatch h
  | .fz _ :: _, _, h => nomatch h
theorem datL_strs {A : List Addr} {U : Hp} : ∀ {bs : List Str} {vs : List V}, DatL G A U (bs.map D.str) vs → vs = bs.map V.str
  | [], _, h => by cases h; rfl
  | b :: r, _, h => by cases h with | cons h t => cases h; rw [datL_strs t]; rfl
theorem datL_ints {A : List Addr} {U : Hp} : ∀ {bs : List Int} {vs : List V}, DatL G A U (bs.map D.int) vs → vs = bs.map V.int
  | [], _, h => by cases h; rfl
  | b :: r, _, h => by cases h with | cons h t => cases h; rw [datL_ints t]; rfl
theorem dat_strs {A : List Addr} {U : Hp} : ∀ (bs : List Str), DatL G A U (bs.map D.str) (bs.map V.str)
  | [] => .nil
  | b :: r => .cons (.str b) (dat_strs r)
theorem dat_ints {A : List Addr} {U : Hp} : ∀ (bs : List Int), DatL G A U (bs.map D.int) (bs.map V.int)
  | [] => .nil
  | b :: r => .cons (.int b) (dat_ints r)
/-! ### order of texts and numbers -/
theorem lt_trichS (x y : Str) : ltS x y = true ∨ x = y ∨ ltS y x = true := by
  unfold ltS
  rw [decide_eq_true_eq, decide_eq_true_eq]
  rcases Classical.em (x.cps.toList < y.cps.toList) with h | h
  · exact .inl h
  · rcases Classical.em (y.cps.toList < x.cps.toList) with h' | h'
    · exact .inr (.inr h')
    · refine .inr (.inl ?_)
      have : x.cps.toList = y.cps.toList := List.le_antisymm h' h
      cases x; cases y
      congr 1
      exact Array.toList_inj.mp this
theorem insS_perm (x : Str) : ∀ l : List Str, (insS x l).Perm (x :: l)
  | [] => .refl _
  | y :: r => by
    unfold insS
    split
    · exact .refl _
    · exact ((insS_perm x r).cons y).trans (.swap _ _ _)
theorem srtS_perm : ∀ l : List Str, (srtS l).Perm l
  | [] => .refl _
  | x :: r => (insS_perm x (srtS r)).trans ((srtS_perm r).cons x)
theorem insI_perm (x : Int) : ∀ l : List Int, (insI x l).Perm (x :: l)
  | [] => .refl _
  | y :: r => by
    unfold insI
    split
    · exact .refl _
    · exact ((insI_perm x r).cons y).trans (.swap _ _ _)
theorem srtI_perm : ∀ l : List Int, (srtI l).Perm l
  | [] => .refl _
  | x :: r => (insI_perm x (srtI r)).trans ((srtI_perm r).cons x)
theorem insI_sorted (x : Int) : ∀ {l : List Int}, l.Pairwise (· ≤ ·) → (insI x l).Pairwise (· ≤ ·)
  | [], _ => by simp [insI]
  | y :: r, h => by
    obtain ⟨h1, h2⟩ := List.pairwise_cons.mp h
    unfold insI
    split
    · rename_i hxy
      refine List.pairwise_cons.mpr ⟨fun z hz => ?_, h⟩
      rcases List.mem_cons.mp hz with e | e
      · subst e; exact hxy
      · exact Int.le_trans hxy (h1 z e)
    · rename_i hxy
      refine List.pairwise_cons.mpr ⟨fun z hz => ?_, insI_sorted x h2⟩
      rcases List.mem_cons.mp ((insI_perm x r).mem_iff.mp hz) with e | e
      · subst e; omega
      · exact h1 z e
theorem srtI_sorted : ∀ l : List Int, (srtI l).Pairwise (· ≤ ·)
  | [] => .nil
  | x :: r => insI_sorted x (srtI_sorted r)
/-- a sorted list is what its members say -/
theorem perm_sorted_eq {α : Type} {R : α → α → Prop} (anti : ∀ a b, R a b → R b a → a = b) : ∀ {l l' : List α}, l.Perm l' → l.Pairwise R → l'.Pairwise R → l = l'
  | [], l', p, _, _ => (List.nil_perm.mp p).symm ▸ rfl
  | x :: r, l', p, h, h' => by
    cases l' with
    | nil => exact absurd p.length_eq (by simp)
    | cons y r' =>
      obtain ⟨h1, h2⟩ := List.pairwise_cons.mp h
      obtain ⟨k1, k2⟩ := List.pairwise_cons.mp h'
      have e : x = y := by
        rcases List.mem_cons.mp (p.mem_iff.mp List.mem_cons_self) with e | e
        · exact e
        · rcases List.mem_cons.mp (p.mem_iff.mpr (List.mem_cons_self (a := y))) with e' | e'
          · exact e'.symm
          · exact anti _ _ (h1 y e') (k1 x e)
      subst e
      rw [perm_sorted_eq anti p.cons_inv h2 k2]
theorem srtI_eq {l l' : List Int} (p : l'.Perm l) (h : l'.Pairwise (· ≤ ·)) : l' = srtI l := perm_sorted_eq (fun a b h1 h2 => Int.le_antisymm h1 h2) (p.trans (srtI_perm l).symm) h (srtI_sorted l)
def leS (x y : Str) : Prop := ltS y x = false
theorem leS_anti (a b : Str) (h1 : leS a b) (h2 : leS b a) : a = b := by
  rcases lt_trichS a b with h | h | h
  · rw [h2] at h; cases h
  · exact h
  · rw [h1] at h; cases h
theorem ltS_trans {a b c : Str} (h1 : ltS a b = true) (h2 : ltS b c = true) : ltS a c = true := by
  unfold ltS at *
  rw [decide_eq_true_eq] at *
  exact List.lt_trans h1 h2
theorem leS_trans {a b c : Str} (h1 : leS a b) (h2 : leS b c) : leS a c := by
  unfold leS at *
  cases h : ltS c a with
  | false => rfl
  | true =>
    rcases lt_trichS a b with k | k | k
    · rw [ltS_trans h k] at h2; cases h2
    · subst k; rw [h] at h2; cases h2
    · rw [k] at h1; cases h1
theorem ltS_le {a b : Str} (h : ltS a b = true) : leS a b := by
  unfold leS
  cases k : ltS b a with
  | false => rfl
  | true =>
    have := ltS_trans h k
    unfold ltS at this
    rw [decide_eq_true_eq] at this
    exact absurd this (List.lt_irrefl _)
theorem insS_sorted (x : Str) : ∀ {l : List Str}, l.Pairwise leS → (insS x l).Pairwise leS
  | [], _ => by simp [insS]
  | y :: r, h => by
    obtain ⟨h1, h2⟩ := List.pairwise_cons.mp h
    unfold insS
    split
    · rename_i hxy
      refine List.pairwise_cons.mpr ⟨fun z hz => ?_, h⟩
      rcases List.mem_cons.mp hz with e | e
      · subst e; exact ltS_le hxy
      · exact leS_trans (ltS_le hxy) (h1 z e)
    · rename_i hxy
      refine List.pairwise_cons.mpr ⟨fun z hz => ?_, insS_sorted x h2⟩
      rcases List.mem_cons.mp ((insS_perm x r).mem_iff.mp hz) with e | e
      · subst e; unfold leS; simpa using hxy
      · exact h1 z e
theorem srtS_sorted : ∀ l : List Str, (srtS l).Pairwise leS
  | [] => .nil
  | x :: r => insS_sorted x (srtS_sorted r)
theorem srtS_eq {l l' : List Str} (p : l'.Perm l) (h : l'.Pairwise leS) : l' = srtS l := perm_sorted_eq leS_anti (p.trans (srtS_perm l).symm) h (srtS_sorted l)
theorem rising_le : ∀ (l : List Str) (x : Str), risingS x l = true → (x :: l).Pairwise leS
  | [], x, _ => List.pairwise_cons.mpr ⟨fun _ h => (nomatch h), .nil⟩
  | y :: r, x, h => by
    unfold risingS at h
    rw [Bool.and_eq_true] at h
    have ih := rising_le r y h.2
    obtain ⟨h1, _⟩ := List.pairwise_cons.mp ih
    have hxy : leS x y := by
      have := h.1
      rw [ltCps_eq] at this
      unfold leS ltS
      simpa using this
    refine List.pairwise_cons.mpr ⟨fun z hz => ?_, ih⟩
    rcases List.mem_cons.mp hz with e | e
    · subst e; exact hxy
    · exact leS_trans hxy (h1 z e)
theorem sortedS_le {l : List Str} (h : sortedS l = true) : l.Pairwise leS := by
  cases l with
  | nil => exact .nil
  | cons x r => exact rising_le r x h
/-! ### built-ins -/
mutual
theorem nodict : ∀ (d : D) (n : Nat), okE n d = true → (toPy d).hasDict = false
  | .non, _, _ => by simp [toPy, PyData.hasDict]
  | .bl b, _, _ => by simp [toPy, PyData.hasDict]
  | .int i, _, _ => by simp [toPy, PyData.hasDict]
  | .str x, _, _ => by simp [toPy, PyData.hasDict]
  | .tup xs, n, h => by
    obtain ⟨m, rfl, h⟩ := okE_tup h
    simp only [toPy, PyData.hasDict]
    exact nodicts xs m h
  | .lst xs, n, h => by
    obtain ⟨m, rfl, h⟩ := okE_lst h
    simp only [toPy, PyData.hasDict]
    exact nodicts xs m h
  | .dic x, n, h => absurd rfl ((okE_no h).1 x)
  | .obj x, n, h => absurd rfl ((okE_no h).2.1 x)
  | .fz x, n, h => absurd rfl ((okE_no h).2.2 x)
theorem nodicts : ∀ (xs : List D) (n : Nat), xs.all (okE n) = true → PyData.hasDictAll (toPys xs) = false
  | [], _, _ => by simp [toPys, PyData.hasDictAll]
  | x :: xs, n, h => by
    obtain ⟨h1, h2⟩ := okE_all h
    simp [toPys, PyData.hasDictAll, nodict x n h1, nodicts xs n h2]
end
theorem Val.ofPerm (hp : W.H p = none) {ds : List D} {vs : List V} (ok : W.Ok) (dl : DatL G W.A W.U ds vs) : True := trivial
include hG in
theorem primX_ok (hc : X.calm = true) (hu : X.A.units + 65 < cLine) (hga : X.A.guards = some []) (hsm : ∃ o, X.base.get? sysModules = some o) {pr : Prim} (h : primX pr ds = some (r, fr)) : ∃ rr, CallR X pr.val rr ∧ Rdn G rr ds r fr := by
  unfold primX at h
  split at h
  · rename_i d
    split at h
    · rename_i hz
      cases h
      rw [Bool.and_eq_true, Bool.and_eq_true, decide_eq_true_eq] at hz
      refine ⟨_, call_reprD hga (by omega) hz.1.2 (depR _ _ hz.1.1) hz.2, fun W vs Q ok hl tp k => ?_⟩
      obtain ⟨b, rfl, t⟩ := pair1 tp
      refine ⟨b, rfl, fun pins σ s u I ru => ?_, k _ W (PStep.refl W) ok (Dat.str _)⟩
      obtain ⟨o, e⟩ := hsm
      exact top_reads hG I ok (I.bs _ _ e).2 hz.1.1 t ru
    · cases h
  · rename_i xs
    split at h
    · rename_i ns hn
      cases h
      obtain rfl := asInts_map hn
      refine ⟨_, cr_sum hc, fun W vs Q ok hl tp k => ?_⟩
      obtain ⟨b, rfl, t⟩ := pair1 tp
      obtain ⟨a, vs, rfl, sh, dl⟩ := t.lst ok
      obtain rfl := datL_ints dl
      exact ⟨a, ns, rfl, .inl (.inl sh), k _ W (PStep.refl W) ok (Dat.int _)⟩
    · cases h
  · cases h
    refine ⟨_, call_int1, fun W vs Q ok hl tp k => ?_⟩
    obtain ⟨b, rfl, t⟩ := pair1 tp
    exact .inl ⟨_, by rw [t.int], k _ W (PStep.refl W) ok (Dat.int _)⟩
  · cases h
    refine ⟨_, call_int1, fun W vs Q ok hl tp k => ?_⟩
    obtain ⟨b, rfl, t⟩ := pair1 tp
    exact .inr ⟨_, by rw [t.bl], k _ W (PStep.refl W) ok (Dat.int _)⟩
  · cases h
    refine ⟨_, call_abs, fun W vs Q ok hl tp k => ?_⟩
    obtain ⟨b, rfl, t⟩ := pair1 tp
    exact ⟨_, by rw [t.int], k _ W (PStep.refl W) ok (Dat.int _)⟩
  · rename_i xs
    split at h
    · rename_i h64
      split at h
      · have hn := asInts_map (by assumption)
        cases h
        subst hn
        refine ⟨_, cr_sorted, fun W vs Q ok hl tp k => ?_⟩
        obtain ⟨b, rfl, t⟩ := pair1 tp
        obtain ⟨a, vs, rfl, sh, dl⟩ := t.lst ok
        obtain rfl := datL_ints dl
        refine ⟨a, _, rfl, .inl (.inl sh), by simpa using h64, fun ns' p h1 h2 hp => ?_⟩
        rw [srtI_eq h1 h2]
        obtain ⟨W2, e2, ps, ok2, vl⟩ := new_lst ok hp (dat_ints (G := G) (A := W.A) (U := W.U) (srtI _))
        rw [← e2]
        exact k _ W2 ps ok2 vl
      · have hn := asStrs_map (by assumption)
        cases h
        subst hn
        refine ⟨_, cr_sortedS, fun W vs Q ok hl tp k => ?_⟩
        obtain ⟨b, rfl, t⟩ := pair1 tp
        obtain ⟨a, vs, rfl, sh, dl⟩ := t.lst ok
        obtain rfl := datL_strs dl
        refine ⟨a, _, rfl, .inl (.inl sh), by simpa using h64, fun ns' p h1 h2 hp => ?_⟩
        rw [srtS_eq h1 (sortedS_le h2)]
        obtain ⟨W2, e2, ps, ok2, vl⟩ := new_lst ok hp (dat_strs (G := G) (A := W.A) (U := W.U) (srtS _))
        rw [← e2]
        exact k _ W2 ps ok2 vl
      · cases h
    · cases h
  · rename_i z
    split at h
    · rename_i hz
      cases h
      refine ⟨_, cr_listS hc, fun W vs Q ok hl tp k => ?_⟩
      obtain ⟨b, rfl, t⟩ := pair1 tp
      refine ⟨z, by rw [t.str], by rw [← lim_line]; exact hz, fun p hp => ?_⟩
      obtain ⟨W2, e2, ps, ok2, vl⟩ := new_lst ok hp (dat_chars (G := G) (A := W.A) (U := W.U) z)
      rw [← e2]
      exact k _ W2 ps ok2 vl
    · cases h
  · rename_i z
    split at h
    · rename_i hz
      cases h
      refine ⟨_, cr_tupS hc, fun W vs Q ok hl tp k => ?_⟩
      obtain ⟨b, rfl, t⟩ := pair1 tp
      refine ⟨z, by rw [t.str], by rw [← lim_line]; exact hz, fun p hp => ?_⟩
      obtain ⟨W2, e2, ps, ok2, vl⟩ := new_tup ok hp (dat_chars (G := G) (A := W.A) (U := W.U) z)
      rw [← e2]
      exact k _ W2 ps ok2 vl
    · cases h
  · rename_i xs
    cases h
    refine ⟨_, call_list_of, fun W vs Q ok hl tp k => ?_⟩
    obtain ⟨b, rfl, t⟩ := pair1 tp
    obtain ⟨a, vs, rfl, sh, dl⟩ := t.fz ok
    refine ⟨a, vs, rfl, .inl (by rw [← hG]; exact sh), fun p hp => ?_⟩
    obtain ⟨W2, e2, ps, ok2, vl⟩ := new_lst ok hp dl
    rw [← e2]
    exact k _ W2 ps ok2 vl
  · rename_i xs
    split at h
    · rename_i ns hn
      split at h
      · rename_i m hm
        cases h
        obtain rfl := asInts_map hn
        obtain ⟨h1, h2⟩ := maxI_is hm
        refine ⟨_, cr_max hc, fun W vs Q ok hl tp k => ?_⟩
        obtain ⟨b, rfl, t⟩ := pair1 tp
        obtain ⟨a, vs, rfl, sh, dl⟩ := t.lst ok
        obtain rfl := datL_ints dl
        refine ⟨a, ns, rfl, .inl (.inl sh), List.length_pos_of_mem h1, fun m' g1 g2 => ?_⟩
        have : m' = m := Int.le_antisymm (h2 _ g1) (g2 _ h1)
        rw [this]
        exact k _ W (PStep.refl W) ok (Dat.int _)
      · cases h
    · cases h
  · rename_i xs
    split at h
    · rename_i ns hn
      split at h
      · rename_i m hm
        cases h
        obtain rfl := asInts_map hn
        obtain ⟨h1, h2⟩ := minI_is hm
        refine ⟨_, cr_min hc, fun W vs Q ok hl tp k => ?_⟩
        obtain ⟨b, rfl, t⟩ := pair1 tp
        obtain ⟨a, vs, rfl, sh, dl⟩ := t.lst ok
        obtain rfl := datL_ints dl
        refine ⟨a, ns, rfl, .inl (.inl sh), List.length_pos_of_mem h1, fun m' g1 g2 => ?_⟩
        have : m' = m := Int.le_antisymm (g2 _ h1) (h2 _ g1)
        rw [this]
        exact k _ W (PStep.refl W) ok (Dat.int _)
      · cases h
    · cases h
  · rename_i xs
    split at h
    · rename_i ps hps
      cases h
      refine ⟨_, call_dictP hc, fun W vs Q ok hl tp k => ?_⟩
      obtain ⟨b, rfl, t⟩ := pair1 tp
      obtain ⟨a, vs, rfl, sh, dl⟩ := t.lst ok
      obtain ⟨as, kvs, rfl, pd, dk⟩ := pairs_dat G ok hps dl
      refine ⟨a, as, kvs, rfl, .inl (.inl sh), by rw [← hG]; exact pd, fun p hp => ?_⟩
      obtain ⟨W2, e2, st, ok2, vl⟩ := new_dic ok hp (dk.merge .nil)
      rw [← e2]
      exact k _ W2 st ok2 vl
    · cases h
  · exact prim_ok hG hc h
/-- x[::-1] -/
def revD : D → Option (D × Bool)
  | .lst xs => some (.lst xs.reverse, true)
  | .tup xs => some (.tup xs.reverse, false)
  | .str z => if z.length ≤ lim then some (.str ⟨z.cps.toList.reverse.toArray⟩, false) else none
  | _ => none
include hG in
theorem rev_ok (h : revD d = some (r, fr)) : ∃ rr, RvR X rr ∧ ∀ W v Q, W.Ok → Top G W d v → (∀ z W', PStep W W' → W'.Ok → Val G W W' fr r z → Q z W'.H) → rr v W.H Q := by
  unfold revD at h
  split at h
  · cases h
    refine ⟨_, rv_lst, fun W v Q ok h1 k => ?_⟩
    obtain ⟨a, vs, rfl, sh, dl⟩ := h1.lst ok
    refine ⟨a, vs, rfl, .inl (.inl sh), fun p hp => ?_⟩
    obtain ⟨W2, e2, ps, ok2, vl⟩ := new_lst ok hp dl.reverse
    rw [← e2]
    exact k _ W2 ps ok2 vl
  · cases h
    refine ⟨_, rv_tup, fun W v Q ok h1 k => ?_⟩
    obtain ⟨a, vs, rfl, su, sh, dl⟩ := h1.tup ok
    refine ⟨a, vs, rfl, by rw [← hG]; exact sh, fun p hp => ?_⟩
    obtain ⟨W2, e2, ps, ok2, vl⟩ := new_tup ok hp dl.reverse
    rw [← e2]
    exact k _ W2 ps ok2 vl
  · rename_i z
    split at h
    · rename_i hz
      cases h
      exact ⟨_, rv_str, fun W v Q ok h1 k => ⟨z, h1.str, by rw [← lim_line]; exact hz, k _ W (PStep.refl W) ok (Dat.str _)⟩⟩
    · cases h
  · cases h
include hG in
theorem d_rev {e : Expr} {x : AV} {k : Nat} {p1 p2 p3 pos : Pos} (he : PE X e (tArg G q en x en1)) (hd : x.dat en1 = some d) (h : revD d = some (r, fr)) :
    PE X (.Subscript e (.Slice none none (some (.UnaryOp .USub (.Constant (.int 1) k p1) p2)) p3) pos) (tD G q en ⟨r, fr, en1⟩) := by
  obtain ⟨rr, hr, hlaw⟩ := rev_ok hG h
  exact pe_imp (pe_rv hr he) fun σ H Q _ ⟨W, e1, ok, rp, k⟩ => by
    subst e1
    refine ⟨W, rfl, ok, rp, fun v W1 st1 ok1 rp1 a1 qs1 l1 => hlaw W1 v _ ok1 (a1.top rp1 hd) fun z W4 ps ok4 vl => fun hl4 => ?_⟩
    exact k z W4 (st1.trans ok1 ps.S) ok4 (rp1.pstep ps) (vl.back st1) ((qs1.trans (QS.of (q := true) ps)).mono fun h => by rw [h]; rfl) (by rw [hG]; exact hl4)
end
end Py
/-! zip with the strict flag. -/
namespace Py
open PySem PySem.Spec PyProof.Rows L2
section
variable {prog : Program} {w : World} {A : Around} {E : Value → Shared → Prop} {s : Shared} {it : Addr} {fp : List Addr} {n i : Nat} {P : Nat → Value → Prop} {St : Nat → Heap → Prop}
theorem noe_item {Q : Option Value → Shared → Prop} (D : Draws prog w A it fp n P St) (hi : i < n) (st : St i s.heap)
    (hQ : ∀ x h' tk, P i x → St (i + 1) h' → Heap.SameBut it s.heap h' → Q (some x) { s with heap := h', toks := tk }) : wpAny (model prog w) A (Builtin.SmallTypes.nextOrEnd (.ref it)) Q E s := by
  unfold Builtin.SmallTypes.nextOrEnd
  exact wpAny_bind (wpAny_attempt (D.item i s _ _ hi st fun x h' tk h1 h2 h3 => wpAny_pure (hQ x h' tk h1 h2 h3)))
theorem noe_done {Q : Option Value → Shared → Prop} (D : Draws prog w A it fp n P St) (st : St n s.heap)
    (hQ : ∀ h', Heap.ExtBut it s.heap h' → Q none { s with heap := h' }) : wpAny (model prog w) A (Builtin.SmallTypes.nextOrEnd (.ref it)) Q E s := by
  unfold Builtin.SmallTypes.nextOrEnd
  refine wpAny_bind (wpAny_attempt (D.done s _ _ st fun h' e h1 h2 => ?_))
  obtain ⟨o, ho, hc⟩ := h2
  refine wpAny_bind (wpAny_isInstance (T := "StopIteration") (b := true) ⟨o, ho, hc⟩ isSubtype_stop ?_)
  exact wpAny_pure (hQ _ h1)
theorem stop_now {Q : Fin → Shared → Prop} (hh : A.handled = none)
    (hE : ∀ h' e, (∀ c o, s.heap.get? c = some o → h'.get? c = some o) → (∃ o, h'.get? e = some o ∧ o.cls = .type "StopIteration") → E (.ref e) { s with heap := h' }) :
    wpAny (model prog w) A (Builtin.SmallTypes.stopIteration) Q E s := by
  unfold Builtin.SmallTypes.stopIteration
  refine wpAny_bind ?_; simp only [newExc, newTuple]
  refine wpAny_bind (wpAny_newObj_type ?_ (by size_fits)); refine wpAny_bind (m := firstArgMember _ _) (wpAny_of_eq (a := Value.none) (by first | rfl | (simp only [firstArgMember]; rfl)) ?_)
  refine wpAny_newObj_type ?_ (by size_fits); simp only [raiseNew]
  refine wpAny_bind (wpAny_handled ?_); rw [hh]
  refine wpAny_bind (wpAny_pure (wpAny_throw (hE _ _ (fun c o e => Heap.get?_push_of_some _ (Heap.get?_push_of_some _ e)) ⟨_, Heap.get?_push_size _ rfl, rfl⟩)))
end
/-- a zip that asks for equal lengths -/
abbrev ZipT (h : Heap) (z TI TO : Addr) (f : Value) : Prop :=
  h.get? z = some ⟨.type "zip", none, .fields #[f, .bool false, .bool true, .ref TI, .ref TO], #[]⟩
section
variable {prog : Program} {w : World} {A : Around} {E : Value → Shared → Prop} {s : Shared} {z TI TO j k : Addr} {fj fk : List Addr} {n i : Nat} {Pj Pk : Nat → Value → Prop} {Sj Sk : Nat → Heap → Prop} {c1 c2 : Value}
theorem zt_item {Q : Value → Shared → Prop} (S : ZipSep2 z TI TO j k fj fk) (Dj : Draws prog w A j fj n Pj Sj) (Dk : Draws prog w A k fk n Pk Sk)
    (hz : ZipT s.heap z TI TO .none) (hTI : IsTupOf2 s.heap TI (.ref j) (.ref k)) (hTO : IsTupOf2 s.heap TO c1 c2) (sj : Sj i s.heap) (sk : Sk i s.heap) (hn : i < n)
    (hQ : ∀ x y h' tk, Pj i x → Pk i y → ZipT h' z TI TO (rawInt s.heap.objs.size) → IsTupOf2 h' TO x y → Sj (i + 1) h' → Sk (i + 1) h' → IsTupOf2 h' s.heap.objs.size x y → h'.objs.size = s.heap.objs.size + 1 →
      (∀ c o, c ≠ z → c ≠ TO → c ≠ j → c ≠ k → s.heap.get? c = some o → h'.get? c = some o) → Q (.ref s.heap.objs.size) { s with heap := h', toks := tk }) :
    wpAny (model prog w) A (Builtin.«zip.__next__» ⟨[.ref z], []⟩) (fun fin s' => ∃ v, fin = .done (.ret v) ∧ Q v s') E s := by
  obtain ⟨hp, g, d, t0, os⟩ := s
  show wpAny _ _ (field (.ref z) 2 >>= _) _ _ _; refine wpAny_bind (wpAny_field hz rfl (x := .bool true) rfl ?_)
  show wpAny _ _ (field (.ref z) 3 >>= _) _ _ _; refine wpAny_bind (wpAny_field hz rfl (x := .ref TI) rfl (wpAny_bind (wpAny_seqItems hTI rfl ?_)))
  show wpAny _ _ (Builtin.SmallTypes.ownedTupleIsFree (.ref z) >>= _) _ _ _; refine wpAny_bind ?_
  unfold Builtin.SmallTypes.ownedTupleIsFree; refine wpAny_bind (wpAny_field hz rfl (x := .none) rfl (wpAny_pure ?_))
  simp only [if_true]
  refine wpAny_bind (wpAny_rule (wpAny_bind (wpAny_field hz rfl (x := .ref TO) rfl (wpAny_bind (wpAny_setField_rec hz (by simp) fun a0 hz0 s0 => ?_)))))
  replace hz0 : ZipT a0 z TI TO .ellipsis := hz0
  replace s0 : Heap.SameBut z hp a0 := s0
  refine wpAny_bind ?_; simp only [List.zipIdx_cons, List.zipIdx_nil, List.forIn_cons, List.forIn_nil]
  refine wpAny_bind (wpAny_bind (wpAny_onRaise ?_)); show wpAny _ _ (Builtin.SmallTypes.nextOrEnd (.ref j)) _ _ ⟨a0, g, d, t0, os⟩
  refine noe_item Dj hn (Dj.over sj s0 S.zf1) fun x b1 tj hx nj q1 => ?_
  replace q1 : Heap.SameBut j a0 b1 := q1
  have u1 : IsTupOf2 b1 TO c1 c2 := q1.extBut _ _ S.Ti1 (s0.extBut _ _ S.TOz hTO)
  refine wpAny_bind (wpAny_seqItems (s := ⟨b1, g, d, tj, os⟩) u1 rfl (wpAny_bind (updateSeq_IsTupOf2 (s := ⟨b1, g, d, tj, os⟩) u1 fun a1 m1 s1 => ?_)))
  replace m1 : IsTupOf2 a1 TO x c2 := m1
  replace s1 : Heap.SameBut TO b1 a1 := s1
  refine wpAny_bind (wpAny_letGo (wpAny_pure (wpAny_bind (wpAny_bind (wpAny_onRaise ?_)))))
  show wpAny _ _ (Builtin.SmallTypes.nextOrEnd (.ref k)) _ _ ⟨a1, g, d, tj, os⟩
  refine noe_item Dk hn (Dk.over (Dk.over (Dk.over sk s0 S.zf2) q1 S.sep1_2) s1 S.Tf2) fun y b2 tk hy nk q2 => ?_
  replace q2 : Heap.SameBut k a1 b2 := q2
  have u2 : IsTupOf2 b2 TO x c2 := q2.extBut _ _ S.Ti2 m1
  refine wpAny_bind (wpAny_seqItems (s := ⟨b2, g, d, tk, os⟩) u2 rfl (wpAny_bind (updateSeq_IsTupOf2 (s := ⟨b2, g, d, tk, os⟩) u2 fun a2 m2 s2 => ?_)))
  replace m2 : IsTupOf2 a2 TO x y := m2
  replace s2 : Heap.SameBut TO b2 a2 := s2
  refine wpAny_bind (wpAny_letGo (wpAny_pure (wpAny_pure (wpAny_bind (wpAny_seqItems (s := ⟨a2, g, d, tk, os⟩) m2 rfl (wpAny_bind (wpAny_newTuple ?_)))))))
  have ez : a2.objs.size = hp.objs.size := by rw [s2.1, q2.1, s1.1, q1.1, s0.1]
  have zz : ZipT a2 z TI TO .ellipsis := s2.extBut _ _ S.TOz.symm (q2.extBut _ _ S.zi2 (s1.extBut _ _ S.TOz.symm (q1.extBut _ _ S.zi1 hz0)))
  have kk : ∀ c o, c ≠ z → c ≠ TO → c ≠ j → c ≠ k → hp.get? c = some o → a2.get? c = some o := fun c o cz cT cj ck e => s2.extBut _ _ cT (q2.extBut _ _ ck (s1.extBut _ _ cT (q1.extBut _ _ cj (s0.extBut _ _ cz e))))
  have jj : Sj (i + 1) a2 := Dj.over (Dj.over (Dj.over nj s1 S.Tf1) q2 S.sep2_1) s2 S.Tf1
  have jk : Sk (i + 1) a2 := Dk.over nk s2 S.Tf2
  have zl : z < a2.objs.size := Heap.lt_size zz
  show wpAny _ _ (Builtin.SmallTypes.ownedTupleHandOut (.ref z) (.ref a2.objs.size) >>= _) _ _ ⟨a2.push { cls := .type "tuple", data := .seq #[x, y] }, g, d, tk, os⟩
  refine wpAny_bind ?_; unfold Builtin.SmallTypes.ownedTupleHandOut
  have z6 : ZipT (a2.push { cls := .type "tuple", data := .seq #[x, y] }) z TI TO .ellipsis := Heap.get?_push_of_some _ zz
  refine wpAny_bind (wpAny_setField_rec z6 (by simp) fun a7 z7 s7 => ?_)
  replace z7 : ZipT a7 z TI TO (rawInt a2.objs.size) := z7
  refine wpAny_setField_rec z7 (by simp) fun a8 z8 s8 => ?_
  replace z8 : ZipT a8 z TI TO (rawInt a2.objs.size) := z8
  replace s7 : Heap.SameBut z (a2.push { cls := .type "tuple", data := .seq #[x, y] }) a7 := s7
  replace s8 : Heap.SameBut z a7 a8 := s8
  have up : ∀ c o, c ≠ z → a2.get? c = some o → a8.get? c = some o := fun c o c1 e => s8.extBut _ _ c1 (s7.extBut _ _ c1 (Heap.get?_push_of_some _ e))
  have T8 : IsTupOf2 a8 a2.objs.size x y := s8.extBut _ _ (Nat.ne_of_gt zl) (s7.extBut _ _ (Nat.ne_of_gt zl) (Heap.get?_push_size _ rfl))
  have e8 : a8.objs.size = a2.objs.size + 1 := by rw [s8.1, s7.1, Heap.size_push]
  rw [ez] at z8 T8 e8
  refine wpAny_pure ⟨_, rfl, ?_⟩; show Q (.ref a2.objs.size) ⟨a8, g, d, tk, os⟩
  rw [ez]
  exact hQ x y a8 tk hx hy z8 (up _ _ S.TOz m2) (Dj.frame _ _ _ jj fun b hb o e => up b o (fun q => S.zf1 (q ▸ hb)) e) (Dk.frame _ _ _ jk fun b hb o e => up b o (fun q => S.zf2 (q ▸ hb)) e) T8 e8 fun c o cz cT cj ck e => up c o cz (kk c o cz cT cj ck e)
theorem zt_end {Q : Fin → Shared → Prop} (hh : A.handled = none) (S : ZipSep2 z TI TO j k fj fk) (Dj : Draws prog w A j fj n Pj Sj) (Dk : Draws prog w A k fk n Pk Sk)
    (hz : ZipT s.heap z TI TO .none) (hTI : IsTupOf2 s.heap TI (.ref j) (.ref k)) (hTO : IsTupOf2 s.heap TO c1 c2) (sj : Sj n s.heap) (sk : Sk n s.heap)
    (hE : ∀ h' e, (∀ c o, c ≠ z → c ≠ TO → c ≠ j → c ≠ k → s.heap.get? c = some o → h'.get? c = some o) → (∃ o, h'.get? e = some o ∧ o.cls = .type "StopIteration") → E (.ref e) { s with heap := h' }) :
    wpAny (model prog w) A (Builtin.«zip.__next__» ⟨[.ref z], []⟩) Q E s := by
  obtain ⟨hp, g, d, t0, os⟩ := s
  show wpAny _ _ (field (.ref z) 2 >>= _) _ _ _; refine wpAny_bind (wpAny_field hz rfl (x := .bool true) rfl ?_)
  show wpAny _ _ (field (.ref z) 3 >>= _) _ _ _; refine wpAny_bind (wpAny_field hz rfl (x := .ref TI) rfl (wpAny_bind (wpAny_seqItems hTI rfl ?_)))
  show wpAny _ _ (Builtin.SmallTypes.ownedTupleIsFree (.ref z) >>= _) _ _ _; refine wpAny_bind ?_
  unfold Builtin.SmallTypes.ownedTupleIsFree; refine wpAny_bind (wpAny_field hz rfl (x := .none) rfl (wpAny_pure ?_))
  simp only [if_true]
  refine wpAny_bind (wpAny_rule (wpAny_bind (wpAny_field hz rfl (x := .ref TO) rfl (wpAny_bind (wpAny_setField_rec hz (by simp) fun a0 hz0 s0 => ?_)))))
  replace hz0 : ZipT a0 z TI TO .ellipsis := hz0
  replace s0 : Heap.SameBut z hp a0 := s0
  refine wpAny_bind ?_; simp only [List.zipIdx_cons, List.zipIdx_nil, List.forIn_cons, List.forIn_nil]
  refine wpAny_bind (wpAny_bind (wpAny_onRaise ?_)); show wpAny _ _ (Builtin.SmallTypes.nextOrEnd (.ref j)) _ _ ⟨a0, g, d, t0, os⟩
  refine noe_done Dj (Dj.over sj s0 S.zf1) fun b1 q1 => ?_
  replace q1 : Heap.ExtBut j a0 b1 := q1
  have z1 : ZipT b1 z TI TO .ellipsis := q1 _ _ S.zi1 hz0
  have k1 : Sk n b1 := Dk.frame _ _ _ (Dk.over sk s0 S.zf2) fun b hb o e => q1 b o (fun q => S.sep1_2 (q ▸ hb)) e
  refine wpAny_bind (wpAny_setField_rec (s := ⟨b1, g, d, t0, os⟩) z1 (by simp) fun a2 z2 s2 => ?_)
  replace s2 : Heap.SameBut z b1 a2 := s2
  refine wpAny_bind (wpAny_bind ?_)
  simp only [List.drop_succ_cons, List.drop_zero, List.zipIdx_cons, List.zipIdx_nil, List.forIn_cons, List.forIn_nil]
  refine wpAny_bind (wpAny_bind ?_)
  refine noe_done (s := ⟨a2, g, d, t0, os⟩) Dk (Dk.over k1 s2 S.zf2) fun b3 q3 => ?_
  replace q3 : Heap.ExtBut k a2 b3 := q3
  refine wpAny_pure (wpAny_pure (wpAny_bind (wpAny_rule (stop_now (s := ⟨b3, g, d, t0, os⟩) hh fun a4 e k4 he => ?_))))
  exact hE a4 e (fun c o cz cT cj ck x => k4 c o (q3 c o ck (s2.extBut _ _ cz (q1 c o cj (s0.extBut _ _ cz x))))) he
/-- the turns of a strict zip over two of one length -/
theorem walks_zt (hh : A.handled = none) (S : ZipSep2 z TI TO j k fj fk) (Dj : Draws prog w A.in1 j fj n Pj Sj) (Dk : Draws prog w A.in1 k fk n Pk Sk) :
    WalksT prog w A z (z :: TI :: TO :: (fj ++ fk)) [z, TO, j, k] n
      (fun i vals => ∃ x y, Pj i x ∧ Pk i y ∧ vals = #[x, y])
      (fun i h => ZipT h z TI TO .none ∧ IsTupOf2 h TI (.ref j) (.ref k) ∧ (∃ x y, IsTupOf2 h TO x y) ∧ Sj i h ∧ Sk i h)
      (fun i T h => ZipT h z TI TO (rawInt T) ∧ IsTupOf2 h TI (.ref j) (.ref k) ∧ (∃ x y, IsTupOf2 h TO x y) ∧ Sj (i + 1) h ∧ Sk (i + 1) h ∧ T ≠ z ∧ T ≠ TO ∧ T ≠ j ∧ T ≠ k) where
  sub := fun c hc => by
    have q : c = z ∨ c = TO ∨ c = j ∨ c = k := by simpa using hc
    have m1 := S.mem1; have m2 := S.mem2
    rcases q with q | q | q | q <;> subst q <;> simp [m1, m2]
  frame := fun i h h' st hk => by
    obtain ⟨a1, a2, ⟨x, y, a3⟩, a4, a5⟩ := st
    refine ⟨hk z (by simp) _ a1, hk TI (by simp) _ a2, ⟨x, y, hk TO (by simp) _ a3⟩, Dj.frame _ _ _ a4 fun b hb o e => hk b (by simp [hb]) o e, Dk.frame _ _ _ a5 fun b hb o e => hk b (by simp [hb]) o e⟩
  item := fun i s Q E hi st hQ => by
    obtain ⟨a1, a2, ⟨x, y, a3⟩, a4, a5⟩ := st
    have ty : s.TypeIs (.ref z) "zip" := ⟨_, a1, rfl⟩
    have lt : ∀ {c o}, s.heap.get? c = some o → s.heap.objs.size ≠ c := fun e => Nat.ne_of_gt (Heap.lt_size e)
    have lj : s.heap.objs.size ≠ j := by obtain ⟨_, e⟩ := Dj.live _ _ a4; exact lt e
    have lk : s.heap.objs.size ≠ k := by obtain ⟨_, e⟩ := Dk.live _ _ a5; exact lt e
    unfold pyNext
    refine wpAny_bind (wpAny_attempt (wpAny_callSpecial?_slot (name := Str.ofString "__next__") ty F.slot_zip_next (wpAny_call_entry F.slot_zip_next ty F.entry_zip_next
      (zt_item S Dj Dk a1 a2 a3 a4 a5 hi fun x y h' tk hx hy b1 b2 d1 d2 b5 b6 hk => wpAny_pure (hQ s.heap.objs.size #[x, y] h' tk ⟨x, y, hx, hy, rfl⟩ (Nat.le_refl _) ⟨_, b5, rfl, _, rfl⟩
        ⟨b1, hk _ _ S.TIz S.TITO S.TIi1 S.TIi2 a2, ⟨_, _, b2⟩, d1, d2, lt a1, lt a3, lj, lk⟩
        fun c o hc e => hk c o (fun x => hc (by simp [x])) (fun x => hc (by simp [x])) (fun x => hc (by simp [x])) (fun x => hc (by simp [x])) e)) (F.args_zip_next_1 _))))
  go := fun elts kk pos i T s Q E hm hQ => by
    obtain ⟨a1, a2, ⟨x, y, a3⟩, a4, a5, _⟩ := hm
    unfold letOwnedTupleGo
    refine wpAny_bind (wpAny_load a1 ?_)
    show wpAny _ _ (if (["enumerate", "zip", "dict_itemiterator", "dict_reverseitemiterator", "odict_iterator", "itertools.zip_longest", "itertools.pairwise"].contains "zip" && (#[rawInt T, .bool false, .bool true, .ref TI, .ref TO] : Array Value)[0]? == some (rawInt T)) = true then _ else _) Q E s
    rw [if_pos (by simp)]; refine wpAny_bind (wpAny_rule (show wpAny _ _ (setField (.ref z) 0 .none) Q E s from wpAny_setField_rec a1 (by simp) fun h' z' s' => ?_))
    exact hQ h' ⟨z', s'.extBut _ _ S.TIz a2, ⟨x, y, s'.extBut _ _ S.TOz a3⟩, Dj.over a4 s' S.zf1, Dk.over a5 s' S.zf2⟩ fun c o hc e => s'.extBut _ _ (fun x => hc (by simp [x])) e
  apart := fun i T h hm hT => by
    obtain ⟨_, _, _, _, _, tz, tT, tj, tk⟩ := hm
    have q : T = z ∨ T = TO ∨ T = j ∨ T = k := by simpa using hT
    rcases q with e | e | e | e <;> contradiction
  done := fun s Q E st hQ => by
    obtain ⟨a1, a2, ⟨x, y, a3⟩, a4, a5⟩ := st
    have ty : s.TypeIs (.ref z) "zip" := ⟨_, a1, rfl⟩
    unfold pyNext
    refine wpAny_bind (wpAny_attempt (wpAny_callSpecial?_slot (name := Str.ofString "__next__") ty F.slot_zip_next (wpAny_call_entry F.slot_zip_next ty F.entry_zip_next
      (zt_end hh S Dj Dk a1 a2 a3 a4 a5 fun h' e hk he => ?_) (F.args_zip_next_1 _))))
    obtain ⟨o, ho, hc⟩ := he
    refine wpAny_bind (wpAny_isInstance (T := "StopIteration") (b := true) ⟨o, ho, hc⟩ isSubtype_stop (wpAny_pure (hQ h' s.toks fun c o hc e => ?_)))
    exact hk c o (fun x => hc (by simp [x])) (fun x => hc (by simp [x])) (fun x => hc (by simp [x])) (fun x => hc (by simp [x])) e
  self := fun i s Q E st hQ => by
    have ty : s.TypeIs (.ref z) "zip" := ⟨_, st.1, rfl⟩
    refine wpAny_pyIter_slot ty F.slot_zip_iter (wpAny_call_entry F.slot_zip_iter ty F.entry_zip_iter ?_ (F.args_zip_iter_1 _))
    show wpAny _ _ (ret (.ref z)) _ _ s; exact wpAny_pure ⟨_, rfl, "zip", _, ty, F.slot_zip_next.lookup, hQ⟩
end
end Py
/-! zip(a, b, strict=True): begins, turns. -/
namespace Py
open PySem PySem.Spec PyProof.Rows L2
def ItzT (K : PySem.W.Frag) (k1 k2 : SK) : It :=
  ⟨fun i H => ∃ xs ys : List V, k1.xs K H xs ∧ k2.xs K H ys ∧ xs.length = ys.length ∧ i < xs.length,
   fun i H v H' => ∃ T x y, v = .ref T ∧ H T = none ∧ H' = upd H T (.tup [x, y]) ∧ (∀ xs, k1.xs K H xs → xs[i]? = some x) ∧ ∀ ys, k2.xs K H ys → ys[i]? = some y,
   fun i H => ∃ xs ys : List V, k1.xs K H xs ∧ k2.xs K H ys ∧ xs.length = ys.length ∧ i = xs.length⟩
theorem itzT_vs {K : PySem.W.Frag} (k1 k2 : SK) : ItzT K k1 k2 = ItzT K k1.vs.sk k2.vs.sk := by cases k1 <;> cases k2 <;> rfl
theorem turn_zipT {P : Program} {w : World} {K : PySem.W.Frag} {elts : List Expr} {kk : Nat} {tpos : Pos} (k1 k2 : SK) {z TI TO i1 i2 : Addr} (C : Cells z TI TO i1 i2) :
    Turn P w K (.Tuple elts kk tpos) (ItzT K k1 k2) [z, TI, TO, i1, i2] z (fun i h => ZipT h z TI TO .none ∧ IsTupOf2 h TI (.ref i1) (.ref i2) ∧ (∃ x y, IsTupOf2 h TO x y) ∧ k1.it i1 i h ∧ k2.it i2 i h) where
  mem := by simp
  obj := fun i h st c hc => by
    obtain ⟨hz, hTI, ⟨x, y, hTO⟩, h1, h2⟩ := st
    have e' : c = z ∨ c = TI ∨ c = TO ∨ c = i1 ∨ c = i2 := by simpa using hc
    rcases e' with q | q | q | q | q
    · rw [q]; exact ⟨_, hz, fun v q => nomatch q⟩
    · rw [q]; exact ⟨_, hTI, fun v q => nomatch q⟩
    · rw [q]; exact ⟨_, hTO, fun v q => nomatch q⟩
    · rw [q]; exact k1.it_ob h1
    · rw [q]; exact k2.it_ob h2
  keep := fun i h h' st k => by
    obtain ⟨hz, hTI, ⟨x, y, hTO⟩, h1, h2⟩ := st
    exact ⟨k z (by simp) _ hz, k TI (by simp) _ hTI, ⟨x, y, k TO (by simp) _ hTO⟩, k1.it_at h1 fun o q => k i1 (by simp) o q, k2.it_at h2 fun o q => k i2 (by simp) o q⟩
  item := by
    intro X hP hw hK hc i pins s σ H E I hf st hg
    subst hP hw hK
    obtain ⟨hz, hTI, hTO, h1, h2⟩ := st
    obtain ⟨xs, ys, hq1, hq2, hel, hi1⟩ := hg
    obtain ⟨its1, con1, n1, val1⟩ := k1.ok I hq1
    obtain ⟨its2, con2, n2, val2⟩ := k2.ok I hq2
    have S : ZipSep2 z TI TO i1 i2 (k1.fp i1) (k2.fp i2) :=
      ⟨C.TIz, C.TOz, C.TITO, C.TIi1, k1.itIn _, k1.notIn C.zi1 (k1.apart I hq1 (hf z (by simp))), k1.notIn C.TOi1 (k1.apart I hq1 (hf TO (by simp))), C.TIi2, k2.itIn _, k2.notIn C.zi2 (k2.apart I hq2 (hf z (by simp))), k2.notIn C.TOi2 (k2.apart I hq2 (hf TO (by simp))),
        k2.notIn C.i12 (k2.apart I hq2 (hf i1 (by simp))), k1.notIn (Ne.symm C.i12) (k1.apart I hq1 (hf i2 (by simp)))⟩
    have D1 := k1.draws (prog := X.prog) (w := X.w) (A := X.A.in1) (I.ok.hd hc) i1 its1 (k1.apart I hq1 (hf i1 (by simp)))
    have D2 := k2.draws (prog := X.prog) (w := X.w) (A := X.A.in1) (I.ok.hd hc) i2 its2 (k2.apart I hq2 (hf i2 (by simp)))
    rw [show k2.n its2 = k1.n its1 by rw [n1, n2]; exact hel.symm] at D2
    refine thn ((GoesN.ofWalksT (elts := elts) (k := kk) (pos := tpos) (walks_zt (I.ok.hd hc) S D1 D2)).goes i s _ _ (by rw [n1]; omega) ⟨hz, hTI, hTO, ⟨h1, con1⟩, ⟨h2, con2⟩⟩ ?_) fun r s1 h => h
    rintro v h' tk ⟨T, vals, rfl, hnew, ⟨u1, u2, hP1, hP2, evs⟩, hT⟩ ⟨hz2, hTI2, hTO2, ⟨h1', _⟩, ⟨h2', _⟩⟩ hk _
    subst evs
    obtain ⟨y1, e1, r1⟩ := val1 i u1 hP1
    obtain ⟨y2, e2, r2⟩ := val2 i u2 hP2
    have I1 : Inv X pins σ (upd H T (.tup [y1, y2])) { s with heap := h', toks := tk } :=
      I.turnedNew (ch := [z, TI, TO, i1, i2]) (fun b o hb e => hk b o (fun q => hb (by
        have q' : b = z ∨ b = TO ∨ b = i1 ∨ b = i2 := by simpa using q
        rcases q' with q | q | q | q <;> simp [q])) e) hf hnew (new2 hT r1 r2)
    refine ⟨.ref T, _, I1, rfl, ⟨T, y1, y2, rfl, I.hok.fresh hnew, rfl, fun l hl => by rw [k1.inj I hl hq1]; exact e1, fun l hl => by rw [k2.inj I hl hq2]; exact e2⟩, ⟨hz2, hTI2, hTO2, h1', h2'⟩, fun c hcm => ?_⟩
    have hlt : c < s.heap.objs.size := by
      have e' : c = z ∨ c = TI ∨ c = TO ∨ c = i1 ∨ c = i2 := by simpa using hcm
      obtain ⟨_, _, hTO⟩ := hTO
      rcases e' with q | q | q | q | q
      · rw [q]; exact Heap.lt_size hz
      · rw [q]; exact Heap.lt_size hTI
      · rw [q]; exact Heap.lt_size hTO
      · rw [q]; obtain ⟨o, ho, _⟩ := k1.it_ob h1; exact Heap.lt_size ho
      · rw [q]; obtain ⟨o, ho, _⟩ := k2.it_ob h2; exact Heap.lt_size ho
    rw [upd_ne (Nat.ne_of_lt (Nat.lt_of_lt_of_le hlt hnew))]
    exact (hf c hcm).1
  done := by
    intro X hP hw hK hc i pins s σ H E I hf st hg
    subst hP hw hK
    obtain ⟨hz, hTI, hTO, h1, h2⟩ := st
    obtain ⟨xs, ys, hq1, hq2, hel, hi⟩ := hg
    obtain ⟨its1, con1, n1, val1⟩ := k1.ok I hq1
    obtain ⟨its2, con2, n2, val2⟩ := k2.ok I hq2
    have S : ZipSep2 z TI TO i1 i2 (k1.fp i1) (k2.fp i2) :=
      ⟨C.TIz, C.TOz, C.TITO, C.TIi1, k1.itIn _, k1.notIn C.zi1 (k1.apart I hq1 (hf z (by simp))), k1.notIn C.TOi1 (k1.apart I hq1 (hf TO (by simp))), C.TIi2, k2.itIn _, k2.notIn C.zi2 (k2.apart I hq2 (hf z (by simp))), k2.notIn C.TOi2 (k2.apart I hq2 (hf TO (by simp))),
        k2.notIn C.i12 (k2.apart I hq2 (hf i1 (by simp))), k1.notIn (Ne.symm C.i12) (k1.apart I hq1 (hf i2 (by simp)))⟩
    have D1 := k1.draws (prog := X.prog) (w := X.w) (A := X.A.in1) (I.ok.hd hc) i1 its1 (k1.apart I hq1 (hf i1 (by simp)))
    have D2 := k2.draws (prog := X.prog) (w := X.w) (A := X.A.in1) (I.ok.hd hc) i2 its2 (k2.apart I hq2 (hf i2 (by simp)))
    have hi' : i = k1.n its1 := by rw [n1]; exact hi
    rw [show k2.n its2 = k1.n its1 by rw [n1, n2]; exact hel.symm] at D2
    refine (GoesN.ofWalksT (elts := elts) (k := kk) (pos := tpos) (walks_zt (I.ok.hd hc) S D1 D2)).stops s (fun s1 => Inv X pins σ H s1) _ (by rw [← hi']; exact ⟨hz, hTI, hTO, ⟨h1, con1⟩, ⟨h2, con2⟩⟩) fun h' tk hk _ => ?_
    exact I.turnedL (t' := tk) (ch := [z, TI, TO, i1, i2]) (fun b o hb e => hk b o (fun q => hb (by
      have q' : b = z ∨ b = TO ∨ b = i1 ∨ b = i2 := by simpa using q
      rcases q' with q | q | q | q <;> simp [q])) e) hf
  self := fun A i s Q E st h => by
    have ty : s.TypeIs (.ref z) "zip" := ⟨_, st.1, rfl⟩
    refine wpAny_pyIter_slot ty F.slot_zip_iter (wpAny_call_entry F.slot_zip_iter ty F.entry_zip_iter ?_ (F.args_zip_iter_1 _))
    show wpAny _ _ (ret (.ref z)) _ _ s; exact wpAny_pure ⟨_, rfl, "zip", _, ty, F.slot_zip_next.lookup, h⟩


abbrev ztZ (h : Heap) (o1 o2 : Obj) : Heap := (gzO2 h o1 o2).push ⟨.type "zip", none, .fields #[.none, .bool false, .bool true, .ref ((h.push o1).push o2).objs.size, .ref (gzT2 h o1 o2).objs.size], #[]⟩
theorem typeCall_zt (a b : Value) : checkTypeCall "zip" ⟨[a, b], [("strict", .bool true)]⟩ = pure () := by kernel_rfl
theorem newCall_zt (a b : Value) : checkBuiltinCall "zip.__new__" ⟨[.type "zip", a, b], [("strict", .bool true)]⟩ = pure () := by kernel_rfl
theorem initArgs_zt (a b c : Value) : argsOk "object.__init__" ⟨[a, b, c], [("strict", .bool true)]⟩ := by
  unfold argsOk; rw [signature?_of (id := "object.__init__") (n := ['_', '_', 't', 'i', 'n', 'i', '_', '_']) (o := ['t', 'c', 'e', 'j', 'b', 'o']) (by kernel_rfl) PySem.F.owner_object]; kernel_rfl
theorem meets_zt {v1 v2 : Value} {o1 o2 : Obj} {H1 H2 : Heap → Prop} (B1 : Begins v1 o1 H1) (B2 : Begins v2 o2 H2) :
    Meets (Builtin.«zip.__new__» ⟨[.type "zip", v1, v2], [("strict", .bool true)]⟩) (fun _ R s => (H1 s.heap ∧ H2 s.heap) ∧
      R (.ok (.ret (.ref (gzO2 s.heap o1 o2).objs.size))) { s with heap := ztZ s.heap o1 o2 }) :=
  .of_wp fun prog w A R s h => by
    obtain ⟨hp, g, d, tk, os⟩ := s; obtain ⟨⟨h1, h2⟩, h⟩ := h
    have hsub := sub_zip
    have q1 : ∀ {A' : Around} {E : Value → Shared → Prop} {Q : Value → Shared → Prop}, Q (.ref hp.objs.size) ⟨(hp.push o1), g, d, tk, os⟩ → wpAny (model prog w) A' (pyIter v1) Q E ⟨hp, g, d, tk, os⟩ := fun q => B1.iter prog w _ _ ⟨hp, g, d, tk, os⟩ _ h1 q
    have q2 : ∀ {A' : Around} {E : Value → Shared → Prop} {Q : Value → Shared → Prop}, Q (.ref (hp.push o1).objs.size) ⟨((hp.push o1).push o2), g, d, tk, os⟩ → wpAny (model prog w) A' (pyIter v2) Q E ⟨(hp.push o1), g, d, tk, os⟩ := fun q => B2.iter prog w _ _ ⟨(hp.push o1), g, d, tk, os⟩ _ (B2.keeps _ _ h2 fun b o' e => Heap.get?_push_of_some _ e) q
    wp_walk using q1, q2
    exact ⟨_, rfl, h⟩
section
variable {prog : Program} {w : World} {A : Around} {E : Value → Shared → Prop} {s : Shared}
theorem oi_meets {T newId : String} {self a : Value} {rest : List Value} {kw : List (Str × Value)} (hl : typeLookup (.type T) "__init__" = pure (some (.builtin "object.__init__")))
    (hm : Bind.madeBy (.type T) = pure (some newId)) (hne : (some newId != some "object.__new__") = true) :
    Meets (Builtin.«object.__init__» ⟨self :: a :: rest, kw⟩) (fun _ R s => s.TypeIs self T ∧ R (.ok (.ret .none)) s) :=
  .of_wp fun prog w A R s hs => by
    obtain ⟨hT, hq⟩ := hs
    repeat (any_goals (first | assumption | wp_step))
    exact ⟨_, rfl, hq⟩
/-- a built-in class called with keywords -/
theorem callTypeK {T newId : String} {Bn : Builtin} {a0 : Value} {args : List Value} {kw : List (Str × Value)} {S : PySem.Spec} {Q : Value → Shared → Prop} (ft : TypeCalled T newId "object.__init__")
    (hne : (some newId != some "object.__new__") = true) (hct : checkTypeCall T ⟨a0 :: args, kw⟩ = pure ()) (hcn : checkBuiltinCall newId ⟨.type T :: a0 :: args, kw⟩ = pure ())
    (hok : ∀ obj, argsOk "object.__init__" ⟨obj :: a0 :: args, kw⟩) (entryN : entryFor table newId = some Bn) (g : Meets (Bn ⟨.type T :: a0 :: args, kw⟩) S)
    (h : S A.in1 (wants (fun obj s₁ => s₁.TypeIs obj T ∧ Q obj s₁) E) s) : wpAny (model prog w) A (call (.type T) (a0 :: args) kw) Q E s := by
  obtain ⟨c0, tl, hmro⟩ := ft.mro
  have hmade := ft.made; have hsub := ft.sub; have h1 := ft.notType; have h2 := ft.canCreate
  refine wpAny_call (codeAny_of_tree (show wpAny _ _ (callAny (.type T) _) _ _ _ from wpAny_pure ⟨Code.quiet_builtin _ (by decide +kernel), codeAny_builtin F.entry_type_call ?_⟩))
  rw [Around.under_plain (weight_type_call_type T (a0 :: args) kw) (units_type_call_type T (a0 :: args) kw)]
  repeat (any_goals (first | assumption | wp_step))
  refine codeAny_mono (codeAny_call_builtin ft.plain entryN (wpAny_of_eq hcn (g prog w A.in1 _ s h))) fun r s1 hr => ?_
  cases r with
  | error e => exact hr
  | ok fl =>
    cases fl with
    | ret obj =>
      obtain ⟨hT, hq⟩ := hr
      have hli := ft.init.lookup; have hbi := ft.init.bind obj
      repeat (any_goals (first | assumption | wp_step))
      refine codeAny_mono (codeAny_call_builtin ft.init.plain F.entry_object_init (ft.init.check _ _ _ _ _ _ _ _ hT (hok obj) (oi_meets ft.init.lookup ft.made hne prog w A.in1 (wants (fun r s2 => r = .none ∧ Q obj s2) E) s1 ⟨hT, rfl, hq⟩))) fun r2 s2 hr2 => ?_
      cases r2 with
      | error e => exact hr2
      | ok f2 =>
        cases f2 with
        | ret r =>
          obtain ⟨rfl, hq2⟩ := hr2
          repeat (any_goals (first | assumption | wp_step))
        | _ => exact hr2.elim
    | _ => exact hr.elim
end
section
variable {prog : Program} {w : World} {A : Around} {E : Value → Shared → Prop} {s : Shared}
theorem callWith_tyK {M : Model} {pos : Pos} {T : String} {args : List (Bool × Sem Value)} {kws : List (Option Str × Sem Value)} {Q : Value → Shared → Prop} (hpl : args.any (·.1) = false) (hkw : kws.any (·.1.isNone) = false)
    (h : wpAny M A (evalArgs (.type T) true args kws) (fun a s₁ => wpAny M A (call (.type T) ([] ++ a.pos) a.kw) Q E s₁) E s) : wpAny M A (callWith pos (.type T) [] args kws) Q E s := by
  unfold callWith
  refine wpAny_bind (wpAny_holding (wpAny_mono h (fun a s1 h1 => wpAny_bind (wpAny_standAt ?_)) fun _ _ x => x)); simp only [hpl, hkw, Bool.or_false]
  exact wpAny_bind (wpAny_pure (wpAny_bind (wpAny_mono h1 (fun r s2 hr => wpAny_bind (wpAny_holding (wpAny_point (wpAny_pure hr)))) fun _ _ x => x)))
theorem zt_begins {v1 v2 : Value} {o1 o2 : Obj} {H1 H2 : Heap → Prop} {Q : Value → Shared → Prop} (B1 : Begins v1 o1 H1) (B2 : Begins v2 o2 H2) (h1 : H1 s.heap) (h2 : H2 s.heap)
    (h : ∀ h', ZipT h' (s.heap.objs.size + 4) (s.heap.objs.size + 2) (s.heap.objs.size + 3) .none → IsTupOf2 h' (s.heap.objs.size + 2) (.ref s.heap.objs.size) (.ref (s.heap.objs.size + 1)) → IsTupOf2 h' (s.heap.objs.size + 3) .none .none →
      h'.get? s.heap.objs.size = some o1 → h'.get? (s.heap.objs.size + 1) = some o2 → h'.objs.size = s.heap.objs.size + 5 → (∀ c o, s.heap.get? c = some o → h'.get? c = some o) → Q (.ref (s.heap.objs.size + 4)) { s with heap := h' }) :
    wpAny (model prog w) A (call (.type "zip") [v1, v2] [("strict", .bool true)]) Q E s := by
  refine callTypeK F.called_zip (by decide) (typeCall_zt _ _) (newCall_zt _ _) (fun obj => initArgs_zt obj _ _) F.entry_zip_new (meets_zt B1 B2) ⟨⟨h1, h2⟩, ?_⟩
  have n1 : (s.heap.push o1).objs.size = s.heap.objs.size + 1 := by rw [Heap.size_push]
  have n2 : ((s.heap.push o1).push o2).objs.size = s.heap.objs.size + 2 := by rw [Heap.size_push, n1]
  have n3 : (gzT2 s.heap o1 o2).objs.size = s.heap.objs.size + 3 := by rw [Heap.size_push, n2]
  have n4 : (gzO2 s.heap o1 o2).objs.size = s.heap.objs.size + 4 := by rw [Heap.size_push, n3]
  have n5 : (ztZ s.heap o1 o2).objs.size = s.heap.objs.size + 5 := by rw [Heap.size_push, n4]
  have eZ : ZipT (ztZ s.heap o1 o2) (gzO2 s.heap o1 o2).objs.size ((s.heap.push o1).push o2).objs.size (gzT2 s.heap o1 o2).objs.size .none := Heap.get?_push_size _ rfl
  have eO : IsTupOf2 (ztZ s.heap o1 o2) (gzT2 s.heap o1 o2).objs.size .none .none := Heap.get?_push_of_some _ (Heap.get?_push_size _ rfl)
  have eT : IsTupOf2 (ztZ s.heap o1 o2) ((s.heap.push o1).push o2).objs.size (.ref s.heap.objs.size) (.ref (s.heap.push o1).objs.size) := Heap.get?_push_of_some _ (Heap.get?_push_of_some _ (Heap.get?_push_size _ rfl))
  have e1 : (ztZ s.heap o1 o2).get? s.heap.objs.size = some o1 := Heap.get?_push_of_some _ (Heap.get?_push_of_some _ (Heap.get?_push_of_some _ (Heap.get?_push_of_some _ (Heap.get?_push_size _ B1.free))))
  have e2 : (ztZ s.heap o1 o2).get? (s.heap.push o1).objs.size = some o2 := Heap.get?_push_of_some _ (Heap.get?_push_of_some _ (Heap.get?_push_of_some _ (Heap.get?_push_size _ B2.free)))
  rw [n4, n3, n2] at eZ
  rw [n3] at eO
  rw [n2, n1] at eT
  rw [n1] at e2
  show _ ∧ _
  rw [n4]
  exact ⟨⟨_, eZ, rfl⟩, h _ eZ eT eO e1 e2 n5 fun c o e => Heap.get?_push_of_some _ (Heap.get?_push_of_some _ (Heap.get?_push_of_some _ (Heap.get?_push_of_some _ (Heap.get?_push_of_some _ e))))⟩
end
section
variable {X : Cx} {pins : List (Addr × Obj)} {σ : L2.St} {H : Hp} {s : Shared}
def iZipT (K : PySem.W.Frag) (ta : TA) : TI := fun σ H R => ta σ H fun vs H1 => ∃ (k1 k2 : VS) (xs ys : List V), vs = [k1.v, k2.v] ∧ k1.xs K H1 xs ∧ k2.xs K H1 ys ∧ xs.length = ys.length ∧ R (ItzT K k1.sk k2.sk) H1
theorem pi_zipT {e e2 : Expr} {ta : TA} {p pos tpos cp kp : Pos} {ck : Nat} {elts : List Expr} {kk : Nat} (hg : Gl X "zip") (hm : X.mg "zip" = none) (ha : PA X [e, e2] ta)
    (hs : starEach [e, e2] X.env = (false, eval e X.env) :: starEach [e2] X.env) (hpl : (backTo pos (starEach [e2] X.env)).any (·.1) = false) :
    PI X (.Tuple elts kk tpos) (.Call (.Name "zip" p) [e, e2] [⟨some "strict", .Constant (.bool true) ck cp, kp⟩] pos) (iZipT X.K ta) := by
  refine ⟨fun pins s σ H R I h => ?_⟩
  refine wpAny_Call_Name_kw (ld_blt I hg hm PyProof.Rows.boot_zip ?_)
  have hall : backTo pos (starEach [e, e2] X.env) = (false, eval e X.env) :: backTo pos (starEach [e2] X.env) := by rw [hs]; rfl
  refine callWith_tyK (by rw [hall]; exact hpl) rfl ?_
  rw [hall]
  refine PyProof.Rows.evalArgs_kwB (by rfl) ?_
  rw [← hall]
  refine thn (ha.run pos pins s σ H _ I h) fun us s1 ⟨vs, H1, I1, r1, q1⟩ => PyProof.Rows.kws_cons (wpAny_Constant_bool (PyProof.Rows.kws_nil ?_))
  show wpAny _ _ (call (.type "zip") us [("strict", .bool true)]) _ _ _
  obtain ⟨k1, k2, xs, ys, ex, hq1, hq2, hel, q⟩ := q1
  subst ex
  obtain ⟨u1, u2, rfl, r1, r2⟩ := r1.two
  obtain ⟨s1', rfl, rfl⟩ := VS.rel r1
  obtain ⟨s2', rfl, rfl⟩ := VS.rel r2
  obtain ⟨its1, con1, _, _⟩ := s1'.ok I1 (s1'.xs_vs.mpr hq1)
  obtain ⟨its2, con2, _, _⟩ := s2'.ok I1 (s2'.xs_vs.mpr hq2)
  refine zt_begins (s1'.begins its1) (s2'.begins its2) con1 con2 fun h' hz hTI hTO g1 g2 hsz hk => ?_
  have ty : Shared.TypeIs { s1 with heap := h' } (.ref (s1.heap.objs.size + 4)) "zip" := ⟨_, hz, rfl⟩
  refine wpAny_pyIter_slot ty F.slot_zip_iter (wpAny_call_entry F.slot_zip_iter ty F.entry_zip_iter (show wpAny _ _ (ret (.ref (s1.heap.objs.size + 4))) _ _ _ from wpAny_pure ⟨_, rfl, "zip", _, ty, F.slot_zip_next.lookup, ?_⟩) (F.args_zip_iter_1 _))
  have I2 : Inv X pins σ H1 { s1 with heap := h' } := I1.kept (t' := s1.toks) hk
  refine ⟨s1.heap.objs.size + 4, [s1.heap.objs.size + 4, s1.heap.objs.size + 2, s1.heap.objs.size + 3, s1.heap.objs.size, s1.heap.objs.size + 1], _, _, H1, rfl, I2,
    turn_zipT s1' s2' (z := s1.heap.objs.size + 4) (TI := s1.heap.objs.size + 2) (TO := s1.heap.objs.size + 3) (i1 := s1.heap.objs.size) (i2 := s1.heap.objs.size + 1) ?_, ⟨hz, hTI, ⟨_, _, hTO⟩, s1'.it0 g1, s2'.it0 g2⟩, fun b hb => ?_, by rw [itzT_vs]; exact q⟩
  · constructor <;> (intro z; exact absurd z (by first | exact Nat.ne_of_gt (by omega) | exact Nat.ne_of_lt (by omega)))
  · have hle : s1.heap.objs.size ≤ b := by
      have e' : b = s1.heap.objs.size + 4 ∨ b = s1.heap.objs.size + 2 ∨ b = s1.heap.objs.size + 3 ∨ b = s1.heap.objs.size ∨ b = s1.heap.objs.size + 1 := by simpa using hb
      rcases e' with z | z | z | z | z <;> rw [z] <;> first | exact Nat.le_refl _ | exact Nat.le_add_right _ _
    exact I1.fpOk hle (I1.hok.fresh hle)
end
end Py
/-! enumerate, zip as sources; methods that change nothing; sorted(set(..)). -/
namespace Py
open PySem PySem.Spec PyProof.Rows L2
open Classical
section
variable {G : Gb} {W W0 W1 W2 W' : Wd} {σ : L2.St} {en en' en1 en2 en3 en4 : Stt} {d d' e r rd : D} {v u : V} {q q1 q2 q3 : Bool} {X : Cx} (hG : G.K = X.K) {fr : Bool} {a b : Expr} {tg : Expr} {ws ws1 ws2 : List Nat} {fl fl' : Fl} {p : Addr} {ds : List D}
/-- a shared value's items, walked -/
structure VSOk (G : Gb) (W : Wd) (k : VS) (xs : List D) (vs : List V) : Prop where
  st : ∀ W', Step W W' → W'.Ok → k.xs G.K W'.H vs ∧ DatL G W'.A W'.U xs vs
  len : ∀ W' : Wd, k.xs G.K W'.H vs → DatL G W'.A W'.U xs vs → LenOk G.K W'.H → xs.length ≤ lim
theorem vs_of {xs : List D} (ok : W.Ok) (h : Dat G W.A W.U d v) (hd : itemsD d = some xs) : ∃ k vs, v = VS.v k ∧ VSOk G W k xs vs := by
  cases d with
  | lst ys =>
    cases hd
    cases h with
    | @lst p vs ds h1 h2 => exact ⟨.lst p, vs, rfl, ⟨fun W' st ok' => ⟨.inl (.inl (ok'.sub _ _ (st.U _ _ h1)).1), h2.mono st.U st.A⟩, fun W' g1 g2 hl => by rw [g2.length]; exact len_lim (hl p vs (.inl g1))⟩⟩
  | tup ys =>
    cases hd
    cases h with
    | @tup p vs ds h1 h2 => exact ⟨.tup p, vs, rfl, ⟨fun W' st ok' => ⟨ok'.subH.sqt (st.U.sqt h1), h2.mono st.U st.A⟩, fun W' g1 g2 hl => by rw [g2.length]; exact len_lim (hl p vs (.inr g1))⟩⟩
  | str z =>
    have hd : (if z.cps.size ≤ lim then some (chars z) else none) = some xs := hd
    by_cases hz : z.cps.size ≤ lim
    · rw [if_pos hz] at hd
      cases hd
      cases h
      exact ⟨.txt z, charsV z, rfl, ⟨fun W' st ok' => ⟨rfl, dat_chars z⟩, fun W' g1 g2 hl => by rw [chars_len]; exact hz⟩⟩
    · rw [if_neg hz] at hd; cases hd
  | _ => cases hd
theorem VS.sk_xs {K : PySem.W.Frag} {H : Hp} {xs : List V} (k : VS) : k.sk.xs K H xs ↔ k.xs K H xs := by cases k <;> exact Iff.rfl
theorem enmL_len (xs : List D) : (enmL xs).length = xs.length := by simp [enmL]
theorem enmL_get {xs : List D} {i : Nat} {x : D} (h : xs[i]? = some x) : (enmL xs)[i]? = some (.tup [.int (i : Nat), x]) := by
  have hi := lt_of_get h
  unfold enmL
  rw [List.getElem?_zipWith, List.getElem?_range hi, h]
theorem pairsL_len (xs ys : List D) : (pairsL xs ys).length = min xs.length ys.length := by simp [pairsL]
theorem pairsL_get {xs ys : List D} {i : Nat} {x y : D} (h : xs[i]? = some x) (h' : ys[i]? = some y) : (pairsL xs ys)[i]? = some (.tup [x, y]) := by
  unfold pairsL
  rw [List.getElem?_zipWith, h, h']
/-- what k walks, as it stands -/
def VSt (G : Gb) (k : VS) (xs : List D) (vs : List V) (W : Wd) : Prop := k.xs G.K W.H vs ∧ DatL G W.A W.U xs vs
theorem walk_enm {k : VS} {xs : List D} {vs : List V} : WalkD G (IteS G.K k.sk) (enmL xs) (VSt G k xs vs) where
  goes := fun W i h _ hi => by rw [enmL_len, h.2.length] at hi; exact ⟨vs, k.sk_xs.mpr h.1, hi⟩
  stops := fun W h _ => ⟨vs, k.sk_xs.mpr h.1, by rw [enmL_len, h.2.length]⟩
  yields := fun W i x H' h ok hi ⟨T, y, hx, hT, hH, hy⟩ => by
    obtain ⟨dd, e1, e2⟩ := h.2.get (hy vs (k.sk_xs.mpr h.1))
    obtain ⟨W2, hh, ps, ok2, vl⟩ := new_tup (ds := [.int (i : Nat), dd]) (vs := [.int (i : Nat), y]) ok hT (.cons (.int _) (.cons e2 .nil))
    subst hx
    exact ⟨W2, _, by rw [hh, hH], ps, ok2, enmL_get e1, vl⟩
theorem walk_zip {k1 k2 : VS} {xs ys : List D} {vs us : List V} : WalkD G (ItzS G.K k1.sk k2.sk) (pairsL xs ys) (fun W => VSt G k1 xs vs W ∧ VSt G k2 ys us W) where
  goes := fun W i h _ hi => by
    rw [pairsL_len, h.1.2.length, h.2.2.length] at hi
    exact ⟨vs, us, k1.sk_xs.mpr h.1.1, k2.sk_xs.mpr h.2.1, by omega, by omega⟩
  stops := fun W h _ => ⟨vs, us, k1.sk_xs.mpr h.1.1, k2.sk_xs.mpr h.2.1, by rw [pairsL_len, h.1.2.length, h.2.2.length]⟩
  yields := fun W i x H' h ok hi ⟨T, y, z, hx, hT, hH, hy, hz⟩ => by
    obtain ⟨d1, e1, e2⟩ := h.1.2.get (hy vs (k1.sk_xs.mpr h.1.1))
    obtain ⟨d2, f1, f2⟩ := h.2.2.get (hz us (k2.sk_xs.mpr h.2.1))
    obtain ⟨W2, hh, ps, ok2, vl⟩ := new_tup (ds := [d1, d2]) (vs := [y, z]) ok hT (.cons e2 (.cons f2 .nil))
    subst hx
    exact ⟨W2, _, by rw [hh, hH], ps, ok2, pairsL_get e1 f1, vl⟩
theorem walk_zipT {k1 k2 : VS} {xs ys : List D} {vs us : List V} (hel : xs.length = ys.length) : WalkD G (ItzT G.K k1.sk k2.sk) (pairsL xs ys) (fun W => VSt G k1 xs vs W ∧ VSt G k2 ys us W) where
  goes := fun W i h _ hi => by
    rw [pairsL_len, h.1.2.length, h.2.2.length] at hi
    exact ⟨vs, us, k1.sk_xs.mpr h.1.1, k2.sk_xs.mpr h.2.1, by have := h.1.2.length; have := h.2.2.length; omega, by omega⟩
  stops := fun W h _ => ⟨vs, us, k1.sk_xs.mpr h.1.1, k2.sk_xs.mpr h.2.1, by have := h.1.2.length; have := h.2.2.length; omega, by rw [pairsL_len]; have := h.1.2.length; have := h.2.2.length; omega⟩
  yields := fun W i x H' h ok hi ⟨T, y, z, hx, hT, hH, hy, hz⟩ => by
    obtain ⟨d1, e1, e2⟩ := h.1.2.get (hy vs (k1.sk_xs.mpr h.1.1))
    obtain ⟨d2, f1, f2⟩ := h.2.2.get (hz us (k2.sk_xs.mpr h.2.1))
    obtain ⟨W2, hh, ps, ok2, vl⟩ := new_tup (ds := [d1, d2]) (vs := [y, z]) ok hT (.cons e2 (.cons f2 .nil))
    subst hx
    exact ⟨W2, _, by rw [hh, hH], ps, ok2, pairsL_get e1 f1, vl⟩
include hG in
theorem s_enm {e : Expr} {xs : List D} {p pos tpos : Pos} {elts : List Expr} {kk : Nat} (hg : Gl X "enumerate") (hm : X.mg "enumerate" = none) (ha : PA X [e] (tLs G q en [d] en')) (hs : starEach [e] X.env = [(false, eval e X.env)]) (hd : itemsD d = some xs) :
    PI X (.Tuple elts kk tpos) (.Call (.Name "enumerate" p) [e] [] pos) (tSrc G q en (enmL xs) none en') :=
  pi_imp (pi_enumS hg hm ha hs) fun σ H R _ ⟨W, e1, ok, rp, k⟩ => by
    subst e1
    refine ⟨W, rfl, ok, rp, fun vs W1 st1 ok1 rp1 a1 qs1 l1 => ?_⟩
    obtain ⟨v, rfl, dv⟩ := datL1 a1
    obtain ⟨kk, us, rfl, vo⟩ := vs_of ok1 dv hd
    obtain ⟨s1, s2⟩ := vo.st W1 (Step.refl _) ok1
    refine ⟨kk, us, rfl, by rw [← hG]; exact s1, fun _ => ?_⟩
    rw [← hG]
    exact k _ W1 (VSt G kk xs us) st1 ok1 rp1 walk_enm (fun W2 st2 ok2 => vo.st W2 st2 ok2) ⟨s1, s2⟩ (fun W2 h2 _ hl => by rw [enmL_len]; exact vo.len W2 h2.1 h2.2 hl) qs1 l1
include hG in
theorem s_zip {e e2 : Expr} {xs ys : List D} {p pos tpos : Pos} {elts : List Expr} {kk : Nat} (hg : Gl X "zip") (hm : X.mg "zip" = none) (ha : PA X [e, e2] (tLs G q en [d, d'] en'))
    (hs : starEach [e, e2] X.env = (false, eval e X.env) :: starEach [e2] X.env) (hpl : (backTo pos (starEach [e2] X.env)).any (·.1) = false) (hd : itemsD d = some xs) (hd' : itemsD d' = some ys) :
    PI X (.Tuple elts kk tpos) (.Call (.Name "zip" p) [e, e2] [] pos) (tSrc G q en (pairsL xs ys) none en') :=
  pi_imp (pi_zipS hg hm ha hs hpl) fun σ H R _ ⟨W, e1, ok, rp, k⟩ => by
    subst e1
    refine ⟨W, rfl, ok, rp, fun vs W1 st1 ok1 rp1 a1 qs1 l1 => ?_⟩
    cases a1 with
    | cons dv r =>
      obtain ⟨v2, rfl, dv2⟩ := datL1 r
      obtain ⟨k1, us, rfl, vo⟩ := vs_of ok1 dv hd
      obtain ⟨k2, us2, rfl, vo2⟩ := vs_of ok1 dv2 hd'
      obtain ⟨s1, s2⟩ := vo.st W1 (Step.refl _) ok1
      obtain ⟨t1, t2⟩ := vo2.st W1 (Step.refl _) ok1
      refine ⟨k1, k2, us, us2, rfl, by rw [← hG]; exact s1, by rw [← hG]; exact t1, fun _ => ?_⟩
      rw [← hG]
      exact k _ W1 (fun W => VSt G k1 xs us W ∧ VSt G k2 ys us2 W) st1 ok1 rp1 walk_zip (fun W2 st2 ok2 => ⟨vo.st W2 st2 ok2, vo2.st W2 st2 ok2⟩) ⟨⟨s1, s2⟩, ⟨t1, t2⟩⟩ (fun W2 h2 _ hl => by
        rw [pairsL_len]
        exact Nat.le_trans (Nat.min_le_left _ _) (vo.len W2 h2.1.1 h2.1.2 hl)) qs1 l1
include hG in
theorem s_zips {e e2 : Expr} {xs ys : List D} {p pos tpos cp kp : Pos} {ck : Nat} {elts : List Expr} {kk : Nat} (hel : xs.length = ys.length) (hg : Gl X "zip") (hm : X.mg "zip" = none) (ha : PA X [e, e2] (tLs G q en [d, d'] en'))
    (hs : starEach [e, e2] X.env = (false, eval e X.env) :: starEach [e2] X.env) (hpl : (backTo pos (starEach [e2] X.env)).any (·.1) = false) (hd : itemsD d = some xs) (hd' : itemsD d' = some ys) :
    PI X (.Tuple elts kk tpos) (.Call (.Name "zip" p) [e, e2] [⟨some "strict", .Constant (.bool true) ck cp, kp⟩] pos) (tSrc G q en (pairsL xs ys) none en') :=
  pi_imp (pi_zipT hg hm ha hs hpl) fun σ H R _ ⟨W, e1, ok, rp, k⟩ => by
    subst e1
    refine ⟨W, rfl, ok, rp, fun vs W1 st1 ok1 rp1 a1 qs1 l1 => ?_⟩
    cases a1 with
    | cons dv r =>
      obtain ⟨v2, rfl, dv2⟩ := datL1 r
      obtain ⟨k1, us, rfl, vo⟩ := vs_of ok1 dv hd
      obtain ⟨k2, us2, rfl, vo2⟩ := vs_of ok1 dv2 hd'
      obtain ⟨s1, s2⟩ := vo.st W1 (Step.refl _) ok1
      obtain ⟨t1, t2⟩ := vo2.st W1 (Step.refl _) ok1
      refine ⟨k1, k2, us, us2, rfl, by rw [← hG]; exact s1, by rw [← hG]; exact t1, by have := s2.length; have := t2.length; omega, fun _ => ?_⟩
      rw [← hG]
      exact k _ W1 (fun W => VSt G k1 xs us W ∧ VSt G k2 ys us2 W) st1 ok1 rp1 (walk_zipT hel) (fun W2 st2 ok2 => ⟨vo.st W2 st2 ok2, vo2.st W2 st2 ok2⟩) ⟨⟨s1, s2⟩, ⟨t1, t2⟩⟩ (fun W2 h2 _ hl => by
        rw [pairsL_len]
        exact Nat.le_trans (Nat.min_le_left _ _) (vo.len W2 h2.1.1 h2.1.2 hl)) qs1 l1
end
end Py
/-! Methods that change nothing; sorted(set(..)), len(set(..)). -/
namespace Py
open PySem PySem.Spec PyProof.Rows L2
open Classical
def mthS : Mth → Str
  | .index => "index"
  | .count => "count"
  | .join => "join"
  | .get => "get"
  | .items => "items"
  | .values => "values"
def mutS : Mut → Str
  | .append => "append"
  | .extend => "extend"
  | .pop => "pop"
  | .insert => "insert"
  | .clear => "clear"
  | .setdefault => "setdefault"
  | .update => "update"
def sameK : D → D → Bool
  | .str _, .str _ => true
  | .lst _, .lst _ => true
  | .tup _, .tup _ => true
  | .dic _, .dic _ => true
  | _, _ => false
section
variable {G : Gb} {W W0 W1 W2 W' : Wd} {σ : L2.St} {en en' en1 en2 en3 en4 : Stt} {d d' e r rd : D} {v u : V} {q q1 q2 q3 : Bool} {X : Cx} (hG : G.K = X.K) {fr : Bool} {a b : Expr} {tg : Expr} {ws ws1 ws2 : List Nat} {fl fl' : Fl} {p : Addr} {ds : List D}
/-- a built-in method: where it is found -/
structure BM (T : String) (name : Str) (id : String) : Prop where
  pa : PlainAttrs T
  slot : PySem.Slot T name id
  ty : typeOf (.builtin id) = pure (.type "method_descriptor")
theorem findD_get {x : D} : ∀ {ys : List D} {i : Nat}, findD x ys = some i → ∃ y, ys[i]? = some y ∧ eqD y x = true ∧ ∀ m z, m < i → ys[m]? = some z → eqD z x = false
  | [], _, h => by cases h
  | y :: r, i, h => by
    unfold findD at h
    by_cases hy : eqD y x = true
    · rw [if_pos hy] at h; cases h
      exact ⟨y, rfl, hy, fun m z hm => absurd hm (Nat.not_lt_zero m)⟩
    · rw [if_neg hy] at h
      cases hf : findD x r with
      | none => rw [hf] at h; cases h
      | some j =>
        rw [hf] at h; cases h
        obtain ⟨z, h1, h2, h3⟩ := findD_get hf
        refine ⟨z, by simpa using h1, h2, fun m w hm hw => ?_⟩
        cases m with
        | zero => simp at hw; subst hw; simpa using hy
        | succ m => exact h3 m w (Nat.lt_of_succ_lt_succ hm) (by simpa using hw)
theorem toPys_get : ∀ {ys : List D} {i : Nat} {y : D}, ys[i]? = some y → (toPys ys)[i]? = some (toPy y)
  | [], i, y, h => by simp at h
  | x :: r, 0, y, h => by simp at h; subst h; simp [toPys]
  | x :: r, i + 1, y, h => by simp [toPys]; exact toPys_get (by simpa using h)
theorem toPys_get' : ∀ {ys : List D} {i : Nat} {z : PyData}, (toPys ys)[i]? = some z → ∃ y, ys[i]? = some y ∧ z = toPy y
  | [], i, z, h => by simp [toPys] at h
  | x :: r, 0, z, h => by simp [toPys] at h; exact ⟨x, rfl, h.symm⟩
  | x :: r, i + 1, z, h => by
    simp [toPys] at h
    obtain ⟨y, h1, h2⟩ := toPys_get' h
    exact ⟨y, by simpa using h1, h2⟩
theorem all_get {n : Nat} {ys : List D} (h : ys.all (okE n) = true) {i : Nat} {y : D} (hy : ys[i]? = some y) : okE n y = true := List.all_eq_true.mp h y (List.mem_of_getElem? hy)
/-- what a method answers -/
def MthLaw (G : Gb) (rr : V → List V → Hp → VK → Prop) (d : D) (ds : List D) (r : D) (fr : Bool) : Prop := ∀ W v us Q, W.Ok → LenOk G.K W.H → Top G W d v → Paired (Top G W) ds us →
  (∀ z W', PStep W W' → W'.Ok → Val G W W' fr r z → Q z W'.H) → rr v us W.H Q
theorem mt_get2 (hu : X.A.units + 65 < cLine) : MtR X "dict.get" (fun x xs H Q => ∃ a y d o, x = .ref a ∧ xs = [y, d] ∧ DGet H a y o ∧ Q (o.getD d) H) := by
  intro pins s σ H x xs v us Q I rx rs q
  obtain ⟨a, y, d, o, rfl, rfl, g, q⟩ := q
  obtain rfl : v = Value.ref a := rx
  obtain ⟨u1, u2, rfl, r1, r2⟩ := vals2 rs
  exact d_get2 (by omega) I g r1 r2 fun w' s' I' rw' => ⟨_, H, I', rw', q⟩
include hG in
theorem mth_ok (hu : X.A.units + 65 < cLine) {m : Mth} (h : mthF m d ds = some (r, fr)) : ∃ T id rr, BM T (mthS m) id ∧ MtR X id rr ∧ (∀ d', sameK d' d = true → ∀ W v, W.Ok → Top G W d' v → tyV X.K T v W.H) ∧ MthLaw G rr d ds r fr := by
  have tyS : ∀ {z : Str}, ∀ d', sameK d' (.str z) = true → ∀ W v, W.Ok → Top G W d' v → tyV X.K "str" v W.H := fun d' hk W v _ h => by
    cases d' <;> first | (rw [h.str]; rfl) | cases hk
  have tyL : ∀ {xs : List D}, ∀ d', sameK d' (.lst xs) = true → ∀ W v, W.Ok → Top G W d' v → tyV X.K "list" v W.H := fun d' hk W v ok h => by
    cases d' <;> (try (cases hk; done))
    obtain ⟨a, vs, rfl, sh, _⟩ := h.lst ok
    exact .inl ⟨rfl, vs, .inl (.inl sh)⟩
  unfold mthF at h
  split at h
  · rename_i z x
    split at h
    · rename_i i rest ho
      cases h
      refine ⟨_, _, _, ⟨F.plainAttrs_str, F.slot_str_index, F.type_str_index⟩, mt_sindex, tyS, fun W v us Q ok hl h1 h2 k => ?_⟩
      obtain ⟨b, rfl, t⟩ := pair1 h2
      exact ⟨z, x, i, rest, h1.str, by rw [t.str], ho, k _ W (PStep.refl W) ok (Dat.int _)⟩
    · cases h
  · rename_i ys x
    split at h
    · rename_i hz
      rw [Bool.and_eq_true] at hz
      obtain ⟨m, hm, hys⟩ := okE_lst hz.2
      cases hf : findD x ys with
      | none => rw [hf] at h; cases h
      | some i =>
        rw [hf] at h; cases h
        obtain ⟨y, f1, f2, f3⟩ := findD_get hf
        refine ⟨_, _, _, ⟨F.plainAttrs_list, F.slot_list_index, F.type_list_index⟩, mt_indexD hu, tyL, fun W v us Q ok hl h1 h2 k => ?_⟩
        obtain ⟨b, rfl, t⟩ := pair1 h2
        obtain ⟨a, vs, e, sh, dl⟩ := h1.lst ok
        have dp := h1.dp ok hz.2
        rw [toPy, hG] at dp
        have shp := shaped_of hz.2
        rw [toPy] at shp
        subst e
        refine ⟨a, b, toPy x, toPys ys, i, toPy y, rfl, rfl, dp, by rw [← hG]; exact t.dp ok hz.1, shp, shaped_of hz.1, toPys_get f1, ?_, fun m' z' hm' hz' => ?_, k _ W (PStep.refl W) ok (Dat.int _)⟩
        · rw [eqv_of y x m 60 (all_get hys f1) hz.1]; exact f2
        · obtain ⟨w, w1, rfl⟩ := toPys_get' hz'
          rw [eqv_of w x m 60 (all_get hys w1) hz.1]; exact f3 m' w hm' w1
    · cases h
  · rename_i z ys
    split at h
    · rename_i zs hzs
      split at h
      · rename_i hl
        cases h
        obtain rfl := asStrs_map hzs
        refine ⟨_, _, _, ⟨F.plainAttrs_str, F.slot_str_join, F.type_str_join⟩, mt_join, tyS, fun W v us Q ok hl' h1 h2 k => ?_⟩
        obtain ⟨b, rfl, t⟩ := pair1 h2
        obtain ⟨a, vs, rfl, sh, dl⟩ := t.lst ok
        obtain rfl := datL_strs dl
        exact ⟨z, a, zs, h1.str, rfl, .inl (.inl (.inl sh)), hl, k _ W (PStep.refl W) ok (Dat.str _)⟩
      · cases h
    · cases h
  · rename_i z x
    cases h
    refine ⟨_, _, _, ⟨F.plainAttrs_str, F.slot_str_count, F.type_str_count⟩, mt_count, tyS, fun W v us Q ok hl h1 h2 k => ?_⟩
    obtain ⟨b, rfl, t⟩ := pair1 h2
    exact ⟨z, x, h1.str, by rw [t.str], k _ W (PStep.refl W) ok (Dat.int _)⟩
  · rename_i kds y d0
    split at h
    · rename_i j hj
      split at h
      · rename_i hlf
        cases h
        refine ⟨_, _, _, ⟨F.plainAttrs_dict, F.slot_dict_get, F.type_dict_get⟩, mt_get2 hu, fun d' hk W v ok h => ?_, fun W v us Q ok hl h1 h2 k => ?_⟩
        · cases d' <;> (try (cases hk; done))
          obtain ⟨a, kvs, rfl, sh, _⟩ := Top.dic ok h
          exact .inr (.inr (.inl ⟨rfl, .inl ⟨kvs, sh⟩⟩))
        · obtain ⟨b, b2, rfl, t, t2⟩ := pair2 h2
          obtain ⟨a, kvs, rfl, sh, dk⟩ := Top.dic ok h1
          have hy := asKey_eq hj
          subst hy
          have hb : b = kV j := by
            cases j with
            | inl i => exact t.int
            | inr x => exact t.str
          subst hb
          have g : DGet W.H a (kV j) (valV kvs j) := DGet.k sh
          refine ⟨a, kV j, b2, valV kvs j, rfl, rfl, g, ?_⟩
          rcases dk.look (k := j) with ⟨e1, e2⟩ | ⟨v, d, e1, e2, e3⟩
          · rw [e1]
            rw [e2] at k
            refine k _ W (PStep.refl W) ok ?_
            show Dat G W.A W.U d0 b2
            rcases t2 with z | ⟨p, _, z⟩
            · exact z
            · cases d0 <;> first | exact z.elim | cases hlf
          · rw [e1]
            rw [e2] at k
            exact k _ W (PStep.refl W) ok e3
      · cases h
    · cases h
  · cases h
theorem bm_mut (m : Mut) (h : m ≠ .setdefault ∧ m ≠ .update) : BM "list" (mutS m) (mutId m) := by
  cases m with
  | append => exact ⟨F.plainAttrs_list, F.slot_list_append, F.type_list_append⟩
  | extend => exact ⟨F.plainAttrs_list, F.slot_list_extend, F.type_list_extend⟩
  | pop => exact ⟨F.plainAttrs_list, F.slot_list_pop, F.type_list_pop⟩
  | insert => exact ⟨F.plainAttrs_list, F.slot_list_insert, F.type_list_insert⟩
  | clear => exact ⟨F.plainAttrs_list, F.slot_list_clear, F.type_list_clear⟩
  | setdefault => exact absurd rfl h.1
  | update => exact absurd rfl h.2
include hG in
theorem d_mth {e' : Expr} {T : String} {rr : V → List V → Hp → VK → Prop} {x : AV} {avs : List AV} (hp : PE X e' (tBM X.K T rr (tArg G q1 en x en1) (tArgs G q2 en1 avs en2))) (hq : x.isF = true → q2 = true)
    (hd1 : x.dat en1 = some e) (hT : ∀ W v, W.Ok → Top G W e v → tyV X.K T v W.H)
    (hd : x.dat en2 = some d) (hds : avDats en2 avs = some ds) (hr : MthLaw G rr d ds r fr) : PE X e' (tD G false en ⟨r, fr, en2⟩) :=
  pe_imp hp fun σ H Q _ ⟨W, e1, ok, rp, k⟩ => by
    subst e1
    refine ⟨W, rfl, ok, rp, fun v W1 st1 ok1 rp1 a1 qs1 l1 => ⟨hT W1 v ok1 (a1.top rp1 hd1), W1, rfl, ok1, rp1, fun us W2 st2 ok2 rp2 a2 qs2 l2 => ?_⟩⟩
    have a1' := a1.step st2 fun z => qs2 (hq z)
    refine hr W2 v us _ ok2 l2 (a1'.top rp2 hd) (tops_of a2 rp2 hds) fun z W3 ps ok3 vl => fun hl3 => ?_
    exact k z W3 ((st1.trans ok1 st2).trans ok2 ps.S) ok3 (rp2.pstep ps) (vl.back (st1.trans ok1 st2)) QS.f (by rw [hG]; exact hl3)
include hG in
theorem d_sset {e : Expr} {x : AV} {p p2 pos pos2 : Pos} (hc : X.calm = true) (he : PE X e (tArg G q en x en1)) (hd : x.dat en1 = some d) (h : ssetD d = some r)
    (hg : Gl X "sorted") (hm : X.mg "sorted" = none) (hg2 : Gl X "set") (hm2 : X.mg "set" = none) (hst : isStar e = false) :
    PE X (.Call (.Name "sorted" p) [.Call (.Name "set" p2) [e] [] pos2] [] pos) (tD G false en ⟨r, true, en1⟩) := by
  -- the set's members, by the data
  have key : ∃ (rr : List V → Hp → VK → Prop) (ks : List Key), CallR X (.type "set") rr ∧ ks.length < 64 ∧ (∀ W v Q, W.Ok → Top G W d v → (∀ p, W.H p = none → Q (.ref p) (upd W.H p (SetGO X.prog X.w p ks))) → rr [v] W.H Q) ∧
      ((∃ zs : List Str, ks = zs.map .inr ∧ r = .lst ((srtS zs).map .str)) ∨ ∃ zs : List Int, ks = zs.map .inl ∧ r = .lst ((srtI zs).map .int)) := by
    have sb : 64 < scanBound := by decide
    have seen_map : ∀ {α : Type} [DecidableEq α] (f : α → Key) (hf : ∀ a b, f a = f b → a = b) (l : List α), seenK (l.map f) = (seenK l).map f := by
      intro α _ f hf l
      have : ∀ (l ks : List α), (l.map f).foldl addK (ks.map f) = (l.foldl addK ks).map f := by
        intro l
        induction l with
        | nil => intro ks; rfl
        | cons x r ih =>
          intro ks
          rw [List.map_cons, List.foldl_cons, List.foldl_cons, ← ih]
          congr 1
          unfold addK
          have : f x ∈ ks.map f ↔ x ∈ ks := ⟨fun h => by obtain ⟨y, h1, h2⟩ := List.mem_map.mp h; exact hf _ _ h2 ▸ h1, fun h => List.mem_map_of_mem h⟩
          by_cases hx : x ∈ ks
          · rw [if_pos hx, if_pos (this.mpr hx)]
          · rw [if_neg hx, if_neg fun z => hx (this.mp z)]; rfl
      exact this l []
    unfold ssetD at h
    split at h
    · rename_i z
      split at h
      · rename_i hz
        cases h
        refine ⟨_, seenK (charsK z), cr_setS hc, ?_, fun W v Q ok t k => ⟨z, by rw [t.str], by omega, k⟩, .inl ⟨seenK (z.cps.toList.map fun c => (⟨#[c]⟩ : Str)), ?_, rfl⟩⟩
        · refine Nat.lt_of_le_of_lt (seen_len _) ?_
          unfold charsK
          rw [List.length_map, Array.length_toList]; omega
        · rw [← seen_map Sum.inr (fun a b h => Sum.inr.inj h), List.map_map]; rfl
      · cases h
    · rename_i xs
      split at h
      · rename_i hz
        cases hn : asInts xs with
        | some ns =>
          rw [hn] at h
          obtain rfl := asInts_map hn
          cases h
          refine ⟨_, seenK (ns.map .inl), cr_setL hc, ?_, fun W v Q ok t k => ?_, .inr ⟨seenK ns, seen_map _ (fun a b h => Sum.inl.inj h) _, rfl⟩⟩
          · refine Nat.lt_of_le_of_lt (seen_len _) ?_
            simp at hz ⊢; omega
          · obtain ⟨a, vs, rfl, sh, dl⟩ := t.lst ok
            obtain rfl := datL_ints dl
            refine ⟨a, ns.map .inl, rfl, .inl (.inl (by rw [List.map_map]; exact sh)), by simp at hz ⊢; omega, k⟩
        | none =>
          rw [hn] at h
          cases hs : asStrs xs with
          | some zs =>
            rw [hs] at h
            obtain rfl := asStrs_map hs
            cases h
            refine ⟨_, seenK (zs.map .inr), cr_setL hc, ?_, fun W v Q ok t k => ?_, .inl ⟨seenK zs, seen_map _ (fun a b h => Sum.inr.inj h) _, rfl⟩⟩
            · refine Nat.lt_of_le_of_lt (seen_len _) ?_
              simp at hz ⊢; omega
            · obtain ⟨a, vs, rfl, sh, dl⟩ := t.lst ok
              obtain rfl := datL_strs dl
              refine ⟨a, zs.map .inr, rfl, .inl (.inl (by rw [List.map_map]; exact sh)), by simp at hz ⊢; omega, k⟩
          | none => rw [hs] at h; cases h
      · cases h
    · cases h
  obtain ⟨rr, ks, hset, hlen, hrr, hks⟩ := key
  have inner : PE X (.Call (.Name "set" p2) [e] [] pos2) (tCB rr (tCons (tArg G q en x en1) tNil)) :=
    pe_callTy hset hg2 hm2 (by decide +kernel) (pa_cons he pa_nil (star_cons hst)) (he := star_cons hst) (hpl := rfl)
  refine pe_imp (pe_callB (cr_sortedG hc) hg hm (by decide +kernel) (pa_cons inner pa_nil rfl) (he := rfl) (hpl := rfl)) fun σ H Q _ ⟨W, e1, ok, rp, k⟩ => ?_
  subst e1
  refine ⟨W, rfl, ok, rp, fun v W1 st1 ok1 rp1 a1 qs1 l1 => ?_⟩
  refine hrr W1 v _ ok1 (a1.top rp1 hd) fun p1 hp1 => ?_
  have ps : PStep W1 { W1 with H := upd W1.H p1 (SetGO X.prog X.w p1 ks) } := push_step hp1
  have ok2 := push_ok (o := SetGO X.prog X.w p1 ks) ok1 hp1
  have st2 := st1.trans ok1 ps.S
  have fin : ∀ (ds : List D) (vs : List V) (p3 : Addr), DatL G W1.A W1.U ds vs → r = .lst ds → upd W1.H p1 (SetGO X.prog X.w p1 ks) p3 = none → LenOk X.K (upd (upd W1.H p1 (SetGO X.prog X.w p1 ks)) p3 (.lst vs)) → Q (.ref p3) (upd (upd W1.H p1 (SetGO X.prog X.w p1 ks)) p3 (.lst vs)) := fun ds vs p3 dl hr hp3 hl => by
    obtain ⟨W3, hh, ps3, ok3, vl⟩ := new_lst (W := { W1 with H := upd W1.H p1 (SetGO X.prog X.w p1 ks) }) ok2 hp3 dl
    have := k (.ref p3) W3 (st2.trans ok2 ps3.S) ok3 ((rp1.pstep ps).pstep ps3) (by rw [hr]; exact vl.back st2) QS.f (by rw [hh, hG]; exact hl)
    rw [hh] at this
    exact this
  refine ⟨p1, ks, rfl, upd_same, hlen, ?_⟩
  rcases hks with ⟨zs, rfl, hr⟩ | ⟨zs, rfl, hr⟩
  · refine .inl ⟨zs, rfl, fun ys p3 h1 h2 hp3 hl => ?_⟩
    have e := srtS_eq h1 (sortedS_le h2)
    subst e
    exact fin _ _ p3 (dat_strs _) hr hp3 hl
  · refine .inr ⟨zs, rfl, fun ys p3 h1 h2 hp3 hl => ?_⟩
    have e := srtI_eq h1 h2
    subst e
    exact fin _ _ p3 (dat_ints _) hr hp3 hl
theorem dat_rg {A : List Addr} {U : Hp} (a b : Int) : DatL G A U (rngL a b) (rgV a b) := by
  unfold rngL rgV
  induction List.range (b - a).toNat with
  | nil => exact .nil
  | cons c r ih => exact .cons (.int _) ih
include hG in
theorem d_lrg {e : Expr} {b : Int} {p p2 pos pos2 : Pos} (hc : X.calm = true) (he : PE X e (tD G q en ⟨.int b, fr, en1⟩)) (hb : -(lim : Int) < b ∧ b < lim)
    (hg : Gl X "list") (hm : X.mg "list" = none) (hg2 : Gl X "range") (hm2 : X.mg "range" = none) (hst : isStar e = false) :
    PE X (.Call (.Name "list" p) [.Call (.Name "range" p2) [e] [] pos2] [] pos) (tD G false en ⟨.lst (rngL 0 b), true, en1⟩) :=
  pe_imp (pe_listRg hc hg hm (prg_1 hg2 hm2 he (star_cons hst)) rfl) fun σ H Q _ ⟨W, e1, ok, rp, k⟩ => by
    subst e1
    have hl : lim = 16777216 := rfl
    refine ⟨W, rfl, ok, rp, fun v W1 st1 ok1 rp1 a1 qs1 l1 => ⟨b, a1.int, ⟨by omega, by omega, by omega, by omega, by omega⟩, fun p1 hp1 hl => ?_⟩⟩
    obtain ⟨W2, hh, ps, ok2, vl⟩ := new_lst ok1 hp1 (dat_rg (G := G) (A := W1.A) (U := W1.U) 0 b)
    have := k (.ref p1) W2 (st1.trans ok1 ps.S) ok2 (rp1.pstep ps) (vl.back st1) QS.f (by rw [hh, hG]; exact hl)
    rw [hh] at this
    exact this
include hG in
theorem d_trg {e : Expr} {b : Int} {p p2 pos pos2 : Pos} (hc : X.calm = true) (he : PE X e (tD G q en ⟨.int b, fr, en1⟩)) (hb : -(lim : Int) < b ∧ b < lim)
    (hg : Gl X "tuple") (hm : X.mg "tuple" = none) (hg2 : Gl X "range") (hm2 : X.mg "range" = none) (hst : isStar e = false) :
    PE X (.Call (.Name "tuple" p) [.Call (.Name "range" p2) [e] [] pos2] [] pos) (tD G false en ⟨.tup (rngL 0 b), false, en1⟩) :=
  pe_imp (pe_tupRg hc hg hm (prg_1 hg2 hm2 he (star_cons hst)) rfl) fun σ H Q _ ⟨W, e1, ok, rp, k⟩ => by
    subst e1
    have hl : lim = 16777216 := rfl
    refine ⟨W, rfl, ok, rp, fun v W1 st1 ok1 rp1 a1 qs1 l1 => ⟨b, a1.int, ⟨by omega, by omega, by omega, by omega, by omega⟩, fun p1 hp1 hl => ?_⟩⟩
    obtain ⟨W2, hh, ps, ok2, vl⟩ := new_tup ok1 hp1 (dat_rg (G := G) (A := W1.A) (U := W1.U) 0 b)
    have := k (.ref p1) W2 (st1.trans ok1 ps.S) ok2 (rp1.pstep ps) (vl.back st1) QS.f (by rw [hh, hG]; exact hl)
    rw [hh] at this
    exact this
include hG in
theorem d_dnew {pos : Pos} : PE X (.Dict [] [] pos) (tD G true en ⟨.dic [], true, en⟩) :=
  pe_imp pe_dnewK fun σ H Q _ ⟨W, e1, ok, rp, k⟩ => by
    subst e1
    intro p hp
    obtain ⟨W2, e2, ps, ok2, vl⟩ := new_dic (G := G) ok hp .nil
    rw [← e2]
    exact fun hl => k _ W2 ps.S ok2 (rp.pstep ps) vl (QS.of ps) (by rw [hG]; exact hl)
end
end Py
/-! The evaluator. -/
namespace Py
open PySem PySem.Spec PyProof.Rows L2
def tysD (d : D) : List Ty → Option (List Bool)
  | [] => some []
  | t :: r => match tyOf d t, tysD d r with
    | some b, some bs => some (b :: bs)
    | _, _ => none
def isLoc : IE → Option Nat
  | .loc i => some i
  | _ => none
/-- an argument: a name's own thing stays where it is -/
def argOf (ir : IE) (ev : Stt → Option R) (en : Stt) : Option (AV × Stt) := match isLoc ir with
  | some i => match en.loc[i]? with
    | some (.sh d) => some (.val d false, en)
    | some .no => none
    | some _ => some (.pl (.loc i), en)
    | none => none
  | none => match ev en with
    | some r => some (.val r.d r.fr, r.en)
    | none => none
def ptOf (ir : IE) (ev : Stt → Option R) (en : Stt) : Option (Option Int × Stt) := match ir with
  | .nop => some (none, en)
  | _ => match ev en with
    | some ⟨.int i, _, en'⟩ => some (some i, en')
    | _ => none
/-- an argument of a call: lent (b), or kept by its owner -/
def cargOf (b kp : Bool) (ir : IE) (ev : Stt → Option R) (en : Stt) : Option (AV × Stt) :=
  if b || kp then (match argOf ir ev en with
        | some (.val d fr, en1) => if b then (if fr then some (AV.val d true, en1) else none) else some (.val d false, en1)
        | some (.pl x, en1) => some (.pl x, en1)
        | none => none) else match ev en with
        | some r => some (.val r.d false, r.en)
        | none => none
variable (T : Tab) (Φ : Nat → FnSem) (F : Nat)
mutual
noncomputable def evE : IE → Stt → Option R
  | .loc i, en => match en.loc[i]? with
    | some (.sh d) => some ⟨d, false, en⟩
    | some (.ow d) => some ⟨d, false, en.set i (.sh d)⟩
    | _ => none
  | .cst d, en => some ⟨d, false, en⟩
  | .tup es, en => match evL es en with
    | some (ds, en') => if ds.length ≤ 1000 then some ⟨.tup ds, false, en'⟩ else none
    | none => none
  | .lst es, en => match evL es en with
    | some (ds, en') => if ds.length ≤ 1000 then some ⟨.lst ds, true, en'⟩ else none
    | none => none
  | .bin o a b, en => match argOf a (fun en => evE a en) en with
    | some (x, en1) => match argOf b (fun en => evE b en) en1 with
      | some (y, en2) => match x.dat en2, y.dat en2 with
        | some d, some e => match binD o d e with
          | some (r, fr) => some ⟨r, fr, en2⟩
          | none => none
        | _, _ => none
      | none => none
    | none => none
  | .neg a, en => match evE a en with
    | some ⟨.int i, _, en'⟩ => some ⟨.int (-i), false, en'⟩
    | _ => none
  | .not a, en => match evE a en with
    | some ⟨.bl b, _, en'⟩ => some ⟨.bl (!b), false, en'⟩
    | _ => none
  | .cmp o a b, en => match argOf a (fun en => evE a en) en with
    | some (x, en1) => match argOf b (fun en => evE b en) en1 with
      | some (y, en2) => match x.dat en2, y.dat en2 with
        | some d, some e => match cmpX o d e with
          | some r => some ⟨.bl r, false, en2⟩
          | none => none
        | _, _ => none
      | none => none
    | none => none
  | .chn o p a b c, en => match argOf a (fun en => evE a en) en with
    | some (x, en1) => match argOf b (fun en => evE b en) en1 with
      | some (y, en2) => match x.dat en2, y.dat en2 with
        | some d, some e => match cmpX o d e with
          | some false => some ⟨.bl false, false, en2⟩
          | some true => match argOf c (fun en => evE c en) en2 with
            | some (z, en3) => match y.dat en3, z.dat en3 with
              | some e', some g => match cmpX p e' g with
                | some r => some ⟨.bl r, false, en3⟩
                | none => none
              | _, _ => none
            | none => none
          | none => none
        | _, _ => none
      | none => none
    | none => none
  | .and a b, en => match evE a en with
    | some ⟨.bl true, _, en'⟩ => evE b en'
    | some ⟨.bl false, _, en'⟩ => some ⟨.bl false, false, en'⟩
    | _ => none
  | .or a b, en => match evE a en with
    | some ⟨.bl false, _, en'⟩ => evE b en'
    | some ⟨.bl true, _, en'⟩ => some ⟨.bl true, false, en'⟩
    | _ => none
  | .ite c a b, en => match evE c en with
    | some ⟨.bl true, _, en'⟩ => evE a en'
    | some ⟨.bl false, _, en'⟩ => evE b en'
    | _ => none
  | .call f es, en => match evCArgs (T.io f) (T.kp f && !(T.ob f)) es en with
    | some (avs, en') => callF T Φ f avs en'
    | none => none
  | .prm p es, en => match p, es with
    | .sset, [e] => match argOf e (fun en => evE e en) en with
      | some (x, en') => match x.dat en' with
        | some d => match ssetD d with
          | some r => some ⟨r, true, en'⟩
          | none => none
        | none => none
      | none => none
    | .lrange, [e] => match evE e en with
      | some ⟨.int b, _, en'⟩ => if -(lim : Int) < b ∧ b < lim then some ⟨.lst (rngL 0 b), true, en'⟩ else none
      | _ => none
    | .trange, [e] => match evE e en with
      | some ⟨.int b, _, en'⟩ => if -(lim : Int) < b ∧ b < lim then some ⟨.tup (rngL 0 b), false, en'⟩ else none
      | _ => none
    | p, es => match evArgs es en with
      | some (avs, en') => match avDats en' avs with
        | some ds => match primX p ds with
          | some (r, fr) => some ⟨r, fr, en'⟩
          | none => none
        | none => none
      | none => none
  | .idx a b, en => match argOf a (fun en => evE a en) en with
    | some (x, en1) => match argOf b (fun en => evE b en) en1 with
      | some (y, en2) => match x.dat en2, y.dat en2 with
        | some d, some e => match idxD d e with
          | some r => some ⟨r, false, en2⟩
          | none => none
        | _, _ => none
      | none => none
    | none => none
  | .slc a lo hi, en => match argOf a (fun en => evE a en) en with
    | some (x, en1) => match ptOf lo (fun en => evE lo en) en1 with
      | some (l, en2) => match ptOf hi (fun en => evE hi en) en2 with
        | some (h, en3) => match x.dat en3 with
          | some d => match slD d l h with
            | some (r, fr) => some ⟨r, fr, en3⟩
            | none => none
          | none => none
        | none => none
      | none => none
    | none => none
  | .rev a, en => match argOf a (fun en => evE a en) en with
    | some (x, en1) => match x.dat en1 with
      | some d => match revD d with
        | some (r, fr) => some ⟨r, fr, en1⟩
        | none => none
      | none => none
    | none => none
  | .dic [] [], en => some ⟨.dic [], true, en⟩
  | .isi a ts, en => match argOf a (fun en => evE a en) en with
    | some (x, en') => match x.dat en' with
      | some d => match tysD d ts with
        | some bs => some ⟨.bl (bs.any id), false, en'⟩
        | none => none
      | none => none
    | none => none
  | .mth m o es, en => match argOf o (fun en => evE o en) en with
    | some (x, en1) => match evArgs es en1 with
      | some (avs, en2) => match x.dat en1, x.dat en2, avDats en2 avs with
        | some d0, some d, some ds => if sameK d0 d = true then match mthF m d ds with
          | some (r, fr) => some ⟨r, fr, en2⟩
          | none => none
          else none
        | _, _, _ => none
      | none => none
    | none => none
  | .mut m o es, en => match o with
    | .loc i => match evL es en with
      | some (ds, en2) => if (en.at (.loc i)).own = true ∧ (en2.at (.loc i)).own = true then
          match (en.at (.loc i)).dat, (en2.at (.loc i)).dat with
          | some d0, some d => if sameK d0 d = true then match mutD m d ds with
            | some (d', rd) => some ⟨rd, false, en2.setP (.loc i) ((en2.at (.loc i)).upd d')⟩
            | none => none
            else none
          | _, _ => none
        else none
      | none => none
    | _ => none
  | .lc elt tg k src ifs own _, en => match evSrc k src en with
    | some (xs, c, en1) => match lcLp (fun x en => asgTg { en with loc := wipeE en.loc own } x tg) (fun en => evIfs ifs en) (fun en => evE elt en) c xs { en1 with loc := wipeE en1.loc own } with
      | some (ys, en2) => some ⟨.lst ys, true, { en2 with loc := backE en1.loc en2.loc own }⟩
      | none => none
    | none => none
  | _, _ => none
noncomputable def evSrc : IK → List IE → Stt → Option (List D × Option (Pl × List D) × Stt)
  | .val, [e], en => match argOf e (fun en => evE e en) en with
    | some (.val d _, en1) => match itemsD d with
      | some xs => some (xs, none, en1)
      | none => none
    | some (.pl x, en1) => match (en1.at x).dat with
      | some (.lst xs) => some (xs, some (x, xs), en1)
      | _ => none
    | none => none
  | .rng1, [e], en => match evE e en with
    | some ⟨.int b, _, en1⟩ => if -lim < b ∧ b < lim then some (rngL 0 b, none, en1) else none
    | _ => none
  | .rng2, [e, e2], en => match evE e en with
    | some ⟨.int a, _, en1⟩ => match evE e2 en1 with
      | some ⟨.int b, _, en2⟩ => if (-lim < a ∧ a < lim ∧ -lim < b ∧ b < lim) ∧ b - a ≤ lim then some (rngL a b, none, en2) else none
      | _ => none
    | _ => none
  | .enm, [e], en => match evE e en with
    | some r => match itemsD r.d with
      | some xs => some (enmL xs, none, r.en)
      | none => none
    | none => none
  | .zip, [e, e2], en => match evE e en with
    | some r => match evE e2 r.en with
      | some r2 => match itemsD r.d, itemsD r2.d with
        | some xs, some ys => some (pairsL xs ys, none, r2.en)
        | _, _ => none
      | none => none
    | none => none
  | .zips, [e, e2], en => match evE e en with
    | some r => match evE e2 r.en with
      | some r2 => match itemsD r.d, itemsD r2.d with
        | some xs, some ys => if xs.length = ys.length then some (pairsL xs ys, none, r2.en) else none
        | _, _ => none
      | none => none
    | none => none
  | _, _, _ => none
noncomputable def evArgs : List IE → Stt → Option (List AV × Stt)
  | [], en => some ([], en)
  | e :: es, en => match argOf e (fun en => evE e en) en with
    | some (a, en1) => match evArgs es en1 with
      | some (avs, en2) => some (a :: avs, en2)
      | none => none
    | none => none
noncomputable def evCArgs : List Bool → Bool → List IE → Stt → Option (List AV × Stt)
  | [], _, [], en => some ([], en)
  | b :: io, kp, e :: es, en => match cargOf b kp e (fun en => evE e en) en with
    | some (a, en1) => match evCArgs io kp es en1 with
      | some (avs, en2) => some (a :: avs, en2)
      | none => none
    | none => none
  | _, _, _, _ => none
noncomputable def evL : List IE → Stt → Option (List D × Stt)
  | [], en => some ([], en)
  | e :: es, en => match evE e en with
    | some r => match evL es r.en with
      | some (ds, en2) => some (r.d :: ds, en2)
      | none => none
    | none => none
noncomputable def evIfs : List IE → Stt → Option (Bool × Stt)
  | [], en => some (true, en)
  | [e], en => match evE e en with
    | some ⟨.bl b, _, en'⟩ => some (b, en')
    | _ => none
  | _, _ => none
end
noncomputable def evArg (ir : IE) (en : Stt) : Option (AV × Stt) := argOf ir (fun en => evE T Φ ir en) en
noncomputable def evP : List IE → Stt → Option (List (D × Bool) × Stt)
  | [], en => some ([], en)
  | e :: es, en => match evE T Φ e en with
    | some r => match evP es r.en with
      | some (ds, en2) => some ((r.d, r.fr) :: ds, en2)
      | none => none
    | none => none
noncomputable def evB (c : IE) (en : Stt) : Option (Bool × Stt) := match evE T Φ c en with
  | some ⟨.bl b, _, en'⟩ => some (b, en')
  | _ => none
mutual
def wrS : IS → List Nat
  | .asg i _ => [i]
  | .asgT is _ => is
  | .par is _ => is
  | .aug i _ _ => [i]
  | .ite _ a b => wrSs a ++ wrSs b
  | .for tg _ _ body => tg.slots ++ wrSs body
  | .whl _ body => wrSs body
  | _ => []
def wrSs : List IS → List Nat
  | [] => []
  | s :: ss => wrS s ++ wrSs ss
end
mutual
noncomputable def evS : IS → Stt → Option (Fl × Stt)
  | .asg i e, en => match evE T Φ e en with
    | some r => match putO r.en i r.fr r.d with
      | some en' => some (.nx, en')
      | none => none
    | none => none
  | .asgT is e, en => match evE T Φ e en with
    | some r => match asgTg r.en r.d (.tp is) with
      | some en' => some (.nx, en')
      | none => none
    | none => none
  | .par is es, en => match evP T Φ es en with
    | some (ds, en1) => match putF en1 is ds with
      | some en' => some (.nx, en')
      | none => none
    | none => none
  | .seti o k e, en => match o with
    | .loc i => match evE T Φ e en with
      | some r => match r.en.loc[i]? with
        | some s => match evArg T Φ k r.en with
          | some (kv, en3) => if (en3.at (.loc i)).own = true ∧ s.own = true then
              match (en3.at (.loc i)).dat, kv.dat en3 with
              | some d, some kd => match setD d kd r.d with
                | some d' => some (.nx, en3.setP (.loc i) ((en3.at (.loc i)).upd d'))
                | none => none
              | _, _ => none
            else none
          | none => none
        | none => none
      | none => none
    | _ => none
  | .augi o k op e, en => match o with
    | .loc i => match en.loc[i]? with
      | some s => if s.own = true then
          match evArg T Φ k en with
          | some (kv, en2) => match (en2.at (.loc i)).dat, kv.dat en2 with
            | some d, some kd => match idxD d kd with
              | some old => match evE T Φ e en2 with
                | some r => match augD op old r.d, (r.en.at (.loc i)).dat, kv.dat r.en with
                  | some z, some d2, some kd2 => if sameK d d2 = true then match setD d2 kd2 z with
                    | some d' => if (r.en.at (.loc i)).own = true then some (.nx, r.en.setP (.loc i) ((r.en.at (.loc i)).upd d')) else none
                    | none => none
                    else none
                  | _, _, _ => none
                | none => none
              | none => none
            | _, _ => none
          | none => none
        else none
      | none => none
    | _ => none
  | .aug i op e, en => match en.loc[i]? with
    | some (.sh d) => match evE T Φ e en with
      | some r => match augD op d r.d with
        | some z => match putO r.en i false z with
          | some en' => some (.nx, en')
          | none => none
        | none => none
      | none => none
    | _ => none
  | .exp e, en => match evE T Φ e en with
    | some r => some (.nx, r.en)
    | none => none
  | .ite c a b, en => match evB T Φ c en with
    | some (true, en') => evSs a en'
    | some (false, en') => evSs b en'
    | none => none
  | .for tg k src body, en => match evSrc T Φ k src en with
    | some (xs, c, en1) => forLp (fun x en => asgTg en x tg) (fun en => evSs body en) c xs en1
    | none => none
  | .whl c body, en => whlLp (fun en => evB T Φ c en) (fun en => evSs body en) F en
  | .ret e, en => match (match e with
      | .loc i => match en.loc[i]? with
        | some (.ow d) => some (d, en.set i .no)
        | _ => none
      | _ => none) with
    | some (d, en') => some (.rt d true, en')
    | none => match evE T Φ e en with
      | some r => some (.rt r.d r.fr, r.en)
      | none => none
  | .retN, en => some (.rt .non false, en)
  | .brk, en => some (.bk, en)
  | .cnt, en => some (.ct, en)
  | .pas, en => some (.nx, en)
  | _, _ => none
noncomputable def evSs : List IS → Stt → Option (Fl × Stt)
  | [], en => some (.nx, en)
  | s :: ss, en => match evS s en with
    | some (.nx, en1) => evSs ss en1
    | some (.bk, en1) => some (.bk, en1)
    | some (.ct, en1) => some (.ct, en1)
    | some (.rt d fr, en1) => some (.rt d fr, en1)
    | none => none
end
end Py
/-! The checker: a written expression is this term. -/
namespace Py
open PySem PySem.Spec PyProof.Rows L2
def sEq (a b : Str) : Bool := a.cps.toList == b.cps.toList
theorem sEq_eq {a b : Str} (h : sEq a b = true) : a = b := by
  cases a; cases b
  congr 1
  exact Array.toList_inj.mp (eq_of_beq h)
/-- where a piece stands: the names of the slots, its scope, the slots that it sees, the block it is in -/
structure Sc where
  N : List Str
  sc : Scope
  vis : List Nat
  blk : Option Scope
structure CT where
  fn : Nat → Str
  cn : Str → Option D
def lookS : List (Str × NameKind) → Str → Option NameKind
  | [], _ => none
  | (y, k) :: r, x => if sEq x y then some k else lookS r x
theorem lookS_eq {x : Str} : ∀ {l : List (Str × NameKind)}, lookS l x = l.lookup x
  | [] => rfl
  | (y, k) :: r => by
    unfold lookS
    rw [List.lookup_cons]
    by_cases h : x = y
    · subst h
      have : sEq x x = true := by unfold sEq; exact beq_self_eq_true _
      rw [this, beq_self_eq_true]; rfl
    · have h1 : sEq x y = false := by
        cases q : sEq x y with
        | false => rfl
        | true => exact absurd (sEq_eq q) h
      have h2 : (x == y) = false := beq_eq_false_iff_ne.mpr h
      rw [h1, h2]
      exact lookS_eq
def ckN (S : Sc) (x : Str) (i : Nat) : Bool := (match S.N[i]? with | some y => sEq y x | none => false) && S.vis.contains i
def ckGl (S : Sc) (x : Str) : Bool := match lookS S.sc.names x with
  | some .globalImplicit => true
  | _ => false
def noDbg (x : Str) : Bool := !sEq x "__debug__" && !sEq x "__classdict__"
def ckC : Const → D → Bool
  | .int i, .int j => i == j
  | .bool b, .bl c => b == c
  | .none, .non => true
  | .str x, .str y => sEq x y
  | _, _ => false
/-- data without parts, compared -/
def sameC : D → D → Bool
  | .int i, .int j => i == j
  | .bl b, .bl c => b == c
  | .non, .non => true
  | .str x, .str y => sEq x y
  | _, _ => false
def ckL (rec : Expr → IE → Bool) : List Expr → List IE → Bool
  | [], [] => true
  | e :: es, i :: is => rec e i && ckL rec es is
  | _, _ => false
def noStar (es : List Expr) : Bool := es.all fun e => !isStar e
def tyN : Ty → Str
  | .int => "int"
  | .str => "str"
  | .bool => "bool"
  | .tuple => "tuple"
  | .list => "list"
  | .dict => "dict"
  | .cls _ => ""
def primN : Prim → Str
  | .len => "len"
  | .sum => "sum"
  | .min => "min"
  | .max => "max"
  | .min2 => "min"
  | .max2 => "max"
  | .sorted => "sorted"
  | .all => "all"
  | .any => "any"
  | .list => "list"
  | .tuple => "tuple"
  | .dict => "dict"
  | .int => "int"
  | .abs => "abs"
  | .repr => "repr"
  | _ => ""
def noSl : Expr → Bool
  | .Slice .. => false
  | _ => true
def noSuper : Expr → Bool
  | .Call _ (_ :: _) _ _ => true
  | .Call .. => false
  | _ => true
def noSet : Expr → Bool
  | .Set .. => false
  | _ => true
/-- no comprehension -/
def noLc : Expr → Bool
  | .ListComp .. => false
  | .SetComp .. => false
  | .DictComp .. => false
  | _ => true
def isTupE : Expr → Bool
  | .Tuple .. => true
  | _ => false
def ckT1 (S : Sc) (x : Str) (i : Nat) : Bool := (match S.N[i]? with | some y => sEq y x | none => false) && (match lookS S.sc.names x with
  | some .local => true
  | some .cell => (match S.blk with
    | none => true
    | some b => (match lookS b.names x with
      | some .cell => true
      | _ => false))
  | _ => false)
def ckTs (S : Sc) : List Expr → List Nat → Bool
  | [], [] => true
  | .Name x _ :: es, i :: is => ckT1 S x i && ckTs S es is
  | _, _ => false
def ckTg (S : Sc) : Expr → Tg → Bool
  | .Name x _, .nm i => ckT1 S x i
  | .Tuple es _ _, .tp is => ckTs S es is
  | _, _ => false
def visB (sc : Scope) (x : Str) : Bool := match lookS sc.names x with
  | some .local => true
  | some .cell => true
  | some .free => true
  | _ => false
def ownN (N : List Str) : List Nat → List (Str × Nat)
  | [] => []
  | i :: r => (match N[i]? with | some x => x | none => "", i) :: ownN N r
def Sc.sub (S : Sc) (scope : Scope) (vis : List Nat) : Sc := ⟨S.N, relS scope S.sc, vis, some scope⟩
def ckVis (S : Sc) (scope : Scope) (vis : List Nat) : Bool := vis.all fun i => match S.N[i]? with
  | some x => visB (relS scope S.sc) x
  | none => true
section
variable (rec : Sc → Expr → IE → Bool) (C : CT) (S : Sc)
def ckO : Option Expr → IE → Bool
  | none, .nop => true
  | some e, i => (match i with | .nop => false | _ => true) && rec S e i
  | _, _ => false
def ckSrc (tg : Tg) (iter : Expr) : IK → List IE → Bool
  | .val, [a] => noSet iter && rec S iter a
  | .rng1, [a] => match iter with
    | .Call (.Name x _) [e] [] _ => sEq x "range" && ckGl S "range" && !isStar e && rec S e a
    | _ => false
  | .rng2, [a, b] => match iter with
    | .Call (.Name x _) [e, e2] [] _ => sEq x "range" && ckGl S "range" && !isStar e && !isStar e2 && rec S e a && rec S e2 b
    | _ => false
  | .enm, [a] => match tg, iter with
    | .tp _, .Call (.Name x _) [e] [] _ => sEq x "enumerate" && ckGl S "enumerate" && !isStar e && rec S e a
    | _, _ => false
  | .zip, [a, b] => match tg, iter with
    | .tp _, .Call (.Name x _) [e, e2] [] _ => sEq x "zip" && ckGl S "zip" && !isStar e && !isStar e2 && rec S e a && rec S e2 b
    | _, _ => false
  | .zips, [a, b] => match tg, iter with
    | .tp _, .Call (.Name x _) [e, e2] [⟨some y, .Constant (.bool true) _ _, _⟩] _ => sEq x "zip" && ckGl S "zip" && sEq y "strict" && !isStar e && !isStar e2 && rec S e a && rec S e2 b
    | _, _ => false
  | _, _ => false
/-- the source is not an own name of the block -/
def srcOk (k : IK) (src : List IE) (own : List Nat) : Bool := match k, src with
  | .val, [.loc i] => !own.contains i
  | _, _ => true
def ckLc (e : Expr) (elt : IE) (tg : Tg) (k : IK) (src ifs : List IE) (own vis : List Nat) : Bool := match e with
  | .ListComp x [⟨t, iter, cs, 0⟩] scope _ =>
    ckSrc rec S tg iter k src && ckTg (S.sub scope vis) t tg && (match cs, ifs with
      | [], [] => true
      | [c], [i] => rec (S.sub scope vis) c i
      | _, _ => false) && rec (S.sub scope vis) x elt && ckVis S scope vis && blkC S.N S.sc scope (ownN S.N own) && (tg.slots.all fun i => own.contains i) && srcOk k src own
  | _ => false
def ckTys : List Expr → List Ty → Bool
  | [], [] => true
  | .Name x _ :: es, t :: ts => sEq x (tyN t) && ckGl S x && (match t with | .cls _ => false | _ => true) && ckTys es ts
  | _, _ => false
def ckE (e : Expr) : IE → Bool
  | .loc i => match e with
    | .Name x _ => ckN S x i
    | _ => false
  | .cst d => match e with
    | .Constant c _ _ => ckC c d
    | .Name x _ => ckGl S x && noDbg x && (match C.cn x with | some d' => sameC d' d | none => false)
    | _ => false
  | .tup is => match e with
    | .Tuple es _ _ => noStar es && ckL (rec S) es is
    | _ => false
  | .lst is => match e with
    | .List es _ => noStar es && ckL (rec S) es is
    | _ => false
  | .bin o a b => match e with
    | .BinOp x o' y _ => decide (o' = o) && rec S x a && rec S y b
    | _ => false
  | .neg a => match e with
    | .UnaryOp .USub x _ => rec S x a
    | _ => false
  | .not a => match e with
    | .UnaryOp .Not x _ => rec S x a
    | _ => false
  | .cmp o a b => match e with
    | .Compare x [o'] [y] _ => decide (o' = o) && noSet y && rec S x a && rec S y b
    | _ => false
  | .chn o p a b c => match e with
    | .Compare x [o', p'] [y, z] _ => decide (o' = o) && decide (p' = p) && noSet z && rec S x a && rec S y b && rec S z c
    | _ => false
  | .and a b => match e with
    | .BoolOp .And (x :: y :: r) pos => rec S x a && (match r with | [] => rec S y b | z :: r => rec S (.BoolOp .And (y :: z :: r) pos) b)
    | _ => false
  | .or a b => match e with
    | .BoolOp .Or (x :: y :: r) pos => rec S x a && (match r with | [] => rec S y b | z :: r => rec S (.BoolOp .Or (y :: z :: r) pos) b)
    | _ => false
  | .ite c a b => match e with
    | .IfExp x y z _ => rec S x c && rec S y a && rec S z b
    | _ => false
  | .call f is => match e with
    | .Call (.Name x _) es [] _ => sEq (C.fn f) x && ckGl S x && noDbg x && noStar es && ckL (rec S) es is
    | _ => false
  | .prm p is => match p, is, e with
    | .sset, [a], .Call (.Name x _) [.Call (.Name y _) [z] [] _] [] _ => sEq x "sorted" && sEq y "set" && ckGl S "sorted" && ckGl S "set" && !isStar z && rec S z a
    | .sset, _, _ => false
    | .lset, _, _ => false
    | .lrange, [a], .Call (.Name x _) [.Call (.Name y _) [z] [] _] [] _ => sEq x "list" && sEq y "range" && ckGl S "list" && ckGl S "range" && !isStar z && rec S z a
    | .lrange, _, _ => false
    | .trange, [a], .Call (.Name x _) [.Call (.Name y _) [z] [] _] [] _ => sEq x "tuple" && sEq y "range" && ckGl S "tuple" && ckGl S "range" && !isStar z && rec S z a
    | .trange, _, _ => false
    | p, is, .Call (.Name x _) (e :: es) [] _ => sEq x (primN p) && ckGl S (primN p) && noStar (e :: es) && ckL (rec S) (e :: es) is
    | _, _, _ => false
  | .idx a b => match e with
    | .Subscript x y _ => noSl y && rec S x a && rec S y b
    | _ => false
  | .slc a lo hi => match e with
    | .Subscript x (.Slice l h none _) _ => rec S x a && ckO rec S l lo && ckO rec S h hi
    | _ => false
  | .rev a => match e with
    | .Subscript x (.Slice none none (some (.UnaryOp .USub (.Constant (.int 1) _ _) _)) _) _ => rec S x a
    | _ => false
  | .dic ks vs => match e, ks, vs with
    | .Dict [] [] _, [], [] => true
    | _, _, _ => false
  | .isi a ts => match e with
    | .Call (.Name f _) [x, t] [] _ => sEq f "isinstance" && ckGl S "isinstance" && !isStar x && rec S x a && (match t with
      | .Name y p => ckTys S [.Name y p] ts
      | .Tuple es _ _ => decide (2 ≤ ts.length) && decide (ts.length ≤ 1000) && noStar es && ckTys S es ts
      | _ => false)
    | _ => false
  | .mth m o is => match e with
    | .Call (.Attribute x n ap) (e :: es) [] cp => sEq n (mthS m) && (ap.endLine == cp.line) && noSuper x && noStar (e :: es) && decide (es.length < 20) && rec S x o && ckL (rec S) (e :: es) is
    | _ => false
  | .mut m o is => match e with
    | .Call (.Attribute x n ap) es [] cp => sEq n (mutS m) && (match m with | .setdefault => false | .update => false | _ => true) && (ap.endLine == cp.line) && noSuper x && noStar es && decide (es.length < 20) && rec S x o && ckL (rec S) es is
    | _ => false
  | .lc elt tg k src ifs own vis => ckLc rec S e elt tg k src ifs own vis
  | _ => false
end
def ck (C : CT) : Nat → Sc → Expr → IE → Bool
  | 0, _, _, _ => false
  | n + 1, S, e, i => ckE (ck C n) C S e i
end Py
/-! What is checked is true: the parts. -/
namespace Py
open PySem PySem.Spec PyProof.Rows L2
open Classical
def bnames : List Str := ["range", "enumerate", "zip", "sorted", "set", "isinstance", "len", "sum", "min", "max", "all", "any", "list", "tuple", "int", "abs", "repr", "str", "bool", "dict", "reversed"]
structure Hd (C : CT) (T : Tab) (Φ : Nat → FnSem) (G : Gb) (X : Cx) : Prop where
  hG : G.K = X.K
  calm : X.calm = true
  nd : X.N.Nodup
  hu : X.A.units + 70 < cLine
  ga : X.A.guards = some []
  bl : ∀ x ∈ bnames, X.mg x = none
  fn : ∀ f ds obs r, Φ f ds obs = some r → ∃ fa fd ps k, X.mg (C.fn f) = some (.ref fa) ∧ PySem.W.keepIn X.K (.ref fa) = true ∧ Binds X.K fd ps [] ∧ FnG X.prog X.w X.K X.mg X.base k fa fd ps (spF G (T.io f) (Φ f)) ∧ Room k X.A
  cn : ∀ x d, C.cn x = some d → ∃ u v, X.mg x = some u ∧ RelV v u ∧ ∀ A U, Dat G A U d v
  sm : ∃ o, X.base.get? sysModules = some o
structure SOk (X : Cx) (S : Sc) : Prop where
  hN : X.N = S.N
  hsc : X.env.scope = S.sc
  vis : ∀ i x, i ∈ S.vis → S.N[i]? = some x → Vis S.sc x
  dbg : ∀ x ∈ S.N, noDbg x = true
  blk : match S.blk with
    | none => ∀ x, X.fn x = true
    | some b => ∀ x, X.fn x = (b.names.lookup x == some .cell)
/-- what is known of the checker below -/
structure Snd (C : CT) (T : Tab) (Φ : Nat → FnSem) (G : Gb) (rec : Sc → Expr → IE → Bool) : Prop where
  l : ∀ S e i, rec S e (.loc i) = true → ∃ x pos, e = .Name x pos ∧ ckN S x i = true
  e : ∀ X S, Hd C T Φ G X → SOk X S → ∀ e i, rec S e i = true → ∀ en r, evE T Φ i en = some r → PE X e (tD G false en r)
  t : ∀ X S, Hd C T Φ G X → SOk X S → ∀ e i, rec S e i = true → ∀ en b fr en', evE T Φ i en = some ⟨.bl b, fr, en'⟩ → PT X e (tDT G false en b en')
section
variable {C : CT} {T : Tab} {Φ : Nat → FnSem} {G : Gb} {rec : Sc → Expr → IE → Bool} {X : Cx} {S : Sc} {W W' : Wd} {q : Bool} {en en' : Stt} {r : R} {av : AV} {b : Bool}
/-! ### less said -/
theorem q_e {e : Expr} (h : PE X e (tD G q en r)) : PE X e (tD G false en r) := pe_imp h fun σ H Q _ ⟨W, e1, ok, rp, k⟩ => ⟨W, e1, ok, rp, fun v W' a b c d qs l => fun _ => k v W' a b c d QS.f l⟩
theorem q_a {e : Expr} (h : PE X e (tArg G q en av en')) : PE X e (tArg G false en av en') := pe_imp h fun σ H Q _ ⟨W, e1, ok, rp, k⟩ => ⟨W, e1, ok, rp, fun v W' a b c d qs l => fun _ => k v W' a b c d QS.f l⟩
theorem q_t {e : Expr} (h : PT X e (tDT G q en b en')) : PT X e (tDT G false en b en') := pt_imp h fun σ H Q _ ⟨W, e1, ok, rp, k⟩ => ⟨W, e1, ok, rp, fun W' a b c qs l => fun _ => k W' a b c QS.f l⟩
theorem q_as {es : List Expr} {avs : List AV} (h : PA X es (tArgs G q en avs en')) : PA X es (tArgs G false en avs en') := pa_imp h fun σ H Q _ ⟨W, e1, ok, rp, k⟩ => ⟨W, e1, ok, rp, fun v W' a b c d qs l => fun _ => k v W' a b c d QS.f l⟩
theorem q_ls {es : List Expr} {ds : List D} (h : PA X es (tLs G q en ds en')) : PA X es (tLs G false en ds en') := pa_imp h fun σ H Q _ ⟨W, e1, ok, rp, k⟩ => ⟨W, e1, ok, rp, fun v W' a b c d qs l => fun _ => k v W' a b c d QS.f l⟩
theorem q_o {e : Option Expr} {o : Option Int} (h : PO X e (tPt G q en o en')) : PO X e (tPt G false en o en') := po_imp h fun σ H Q _ ⟨W, e1, ok, rp, k⟩ => ⟨W, e1, ok, rp, fun W' a b c qs l => fun _ => k W' a b c QS.f l⟩
theorem q_s {tg e : Expr} {xs : List D} {c : Option (Pl × List D)} (h : PI X tg e (tSrc G q en xs c en')) : PI X tg e (tSrc G false en xs c en') := pi_imp h fun σ H R _ ⟨W, e1, ok, rp, k⟩ => ⟨W, e1, ok, rp, fun J W' Sd a b c d e f g qs l => fun _ => k J W' Sd a b c d e f g QS.f l⟩
/-! ### names -/
theorem ckN_N {x : Str} {i : Nat} (h : ckN S x i = true) : S.N[i]? = some x ∧ i ∈ S.vis := by
  unfold ckN at h
  rw [Bool.and_eq_true] at h
  obtain ⟨h1, h2⟩ := h
  split at h1
  · rename_i y hy
    exact ⟨by rw [hy, sEq_eq h1], by simpa using h2⟩
  · cases h1
theorem dbg_of {x : Str} (h : noDbg x = true) : (x == ("__debug__" : Str)) = false ∧ (x == ("__classdict__" : Str)) = false := by
  unfold noDbg at h
  rw [Bool.and_eq_true] at h
  have key : ∀ {y : Str}, (!sEq x y) = true → (x == y) = false := fun {y} h => by
    refine beq_eq_false_iff_ne.mpr fun e => ?_
    subst e
    have : sEq x x = true := by unfold sEq; exact beq_self_eq_true _
    rw [this] at h; cases h
  exact ⟨key h.1, key h.2⟩
theorem gl_of (hS : SOk X S) {x : Str} (h : ckGl S x = true) : Gl X x := by
  unfold ckGl at h
  rw [lookS_eq] at h
  show X.env.scope.names.lookup x = _
  rw [hS.hsc]
  split at h
  · assumption
  · cases h
theorem bl_of (hX : Hd C T Φ G X) {x : Str} (h : bnames.contains x = true) : X.mg x = none := hX.bl x (by simpa using h)
theorem star_l {es : List Expr} (h : noStar es = true) : es.all (fun e => !isStar e) = true := h
theorem star_c {e : Expr} {es : List Expr} (h : noStar (e :: es) = true) : starEach (e :: es) X.env = (false, eval e X.env) :: starEach es X.env := by
  unfold noStar at h
  rw [List.all_cons, Bool.and_eq_true] at h
  exact star_cons (by simpa using h.1)
theorem star_t {e : Expr} {es : List Expr} (h : noStar (e :: es) = true) : noStar es = true := by
  unfold noStar at h
  rw [List.all_cons, Bool.and_eq_true] at h
  exact h.2
theorem snd_arg (IH : Snd C T Φ G rec) (hX : Hd C T Φ G X) (hS : SOk X S) {e : Expr} {i : IE} (h : rec S e i = true) (hv : argOf i (fun en => evE T Φ i en) en = some (av, en')) : PE X e (tArg G false en av en') := by
  unfold argOf at hv
  cases hl : isLoc i with
  | none =>
    rw [hl] at hv
    simp only at hv
    cases hr : evE T Φ i en with
    | none => rw [hr] at hv; cases hv
    | some r =>
      rw [hr] at hv
      cases hv
      exact d_arg (IH.e X S hX hS e i h en r hr)
  | some j =>
    have hi : i = .loc j := by
      cases i with
      | loc k => cases hl; rfl
      | _ => cases hl
    subst hi
    rw [hl] at hv
    simp only at hv
    obtain ⟨x, pos, rfl, hn⟩ := IH.l S e j h
    obtain ⟨hn, hvis⟩ := ckN_N hn
    have hd := dbg_of (hS.dbg x (List.mem_of_getElem? hn))
    have hv' : Vis X.env.scope x := by rw [hS.hsc]; exact hS.vis j x hvis hn
    have hN : X.N[j]? = some x := by rw [hS.hN]; exact hn
    cases hs : en.loc[j]? with
    | none => rw [hs] at hv; cases hv
    | some s =>
      rw [hs] at hv
      cases s with
      | no => cases hv
      | sh d =>
        cases hv
        exact d_arg (q_e (d_loc hX.hG hN hv' hd.1 hd.2 (r := ⟨d, false, en⟩) (by rw [hs])))
      | ow d =>
        cases hv
        exact q_a (d_argLoc hX.hG hN hv' hd.1 hd.2 hs (fun z => nomatch z))
      | io d =>
        cases hv
        exact q_a (d_argLoc hX.hG hN hv' hd.1 hd.2 hs (fun z => nomatch z))
theorem snd_args (IH : Snd C T Φ G rec) (hX : Hd C T Φ G X) (hS : SOk X S) : ∀ {es : List Expr} {is : List IE} {en en' : Stt} {avs : List AV}, ckL (rec S) es is = true → noStar es = true → evArgs T Φ is en = some (avs, en') → PA X es (tArgs G false en avs en')
  | [], [], en, en', avs, _, _, hv => by
    unfold evArgs at hv
    cases hv
    exact q_as (d_nil hX.hG)
  | e :: es, i :: is, en, en', avs, h, hst, hv => by
    unfold ckL at h
    rw [Bool.and_eq_true] at h
    unfold evArgs at hv
    cases ha : argOf i (fun en => evE T Φ i en) en with
    | none => rw [ha] at hv; cases hv
    | some p =>
      obtain ⟨a, en1⟩ := p
      rw [ha] at hv
      simp only at hv
      cases hr : evArgs T Φ is en1 with
      | none => rw [hr] at hv; cases hv
      | some p =>
        obtain ⟨as, en2⟩ := p
        rw [hr] at hv
        cases hv
        have := d_cons (q1 := false) (q2 := false) (snd_arg IH hX hS h.1 ha) (snd_args IH hX hS h.2 (star_t hst) hr) ?_ (star_c hst)
        · exact this
        · intro z
          exfalso
          cases a with
          | val d fr => cases z
          | pl x =>
            cases x with
            | loc j => cases z
            | fld n f =>
              unfold argOf at ha
              split at ha
              · split at ha <;> cases ha
              · split at ha <;> cases ha
  | [], _ :: _, _, _, _, h, _, _ => by cases h
  | _ :: _, [], _, _, _, h, _, _ => by cases h
theorem snd_l (IH : Snd C T Φ G rec) (hX : Hd C T Φ G X) (hS : SOk X S) : ∀ {es : List Expr} {is : List IE} {en en' : Stt} {ds : List D}, ckL (rec S) es is = true → noStar es = true → evL T Φ is en = some (ds, en') → PA X es (tLs G false en ds en')
  | [], [], en, en', ds, _, _, hv => by
    unfold evL at hv
    cases hv
    exact q_ls (d_lnil hX.hG)
  | e :: es, i :: is, en, en', ds, h, hst, hv => by
    unfold ckL at h
    rw [Bool.and_eq_true] at h
    unfold evL at hv
    cases ha : evE T Φ i en with
    | none => rw [ha] at hv; cases hv
    | some r =>
      rw [ha] at hv
      simp only at hv
      cases hr : evL T Φ is r.en with
      | none => rw [hr] at hv; cases hv
      | some p =>
        obtain ⟨as, en2⟩ := p
        rw [hr] at hv
        cases hv
        exact d_lcons (q1 := false) (q2 := false) (IH.e X S hX hS e i h.1 en r ha) (snd_l IH hX hS h.2 (star_t hst) hr) (star_c hst)
  | [], _ :: _, _, _, _, h, _, _ => by cases h
  | _ :: _, [], _, _, _, h, _, _ => by cases h
/-- the arguments of a call -/
theorem snd_c (IH : Snd C T Φ G rec) (hX : Hd C T Φ G X) (hS : SOk X S) {kp : Bool} : ∀ {io : List Bool} {es : List Expr} {is : List IE} {en en' : Stt} {avs : List AV}, ckL (rec S) es is = true → noStar es = true → evCArgs T Φ io kp is en = some (avs, en') →
    PA X es (tArgs G false en avs en') ∧ avOk kp io avs = true
  | [], [], [], en, en', avs, _, _, hv => by
    unfold evCArgs at hv
    cases hv
    exact ⟨q_as (d_nil hX.hG), rfl⟩
  | b :: io, e :: es, i :: is, en, en', avs, h, hst, hv => by
    unfold ckL at h
    rw [Bool.and_eq_true] at h
    unfold evCArgs at hv
    cases ha : cargOf b kp i (fun en => evE T Φ i en) en with
    | none => rw [ha] at hv; cases hv
    | some p =>
      obtain ⟨a, en1⟩ := p
      rw [ha] at hv
      simp only at hv
      cases hr : evCArgs T Φ io kp is en1 with
      | none => rw [hr] at hv; cases hv
      | some p =>
        obtain ⟨as, en2⟩ := p
        rw [hr] at hv
        cases hv
        obtain ⟨ih1, ih2⟩ := snd_c IH hX hS h.2 (star_t hst) hr
        have key : PE X e (tArg G false en a en1) ∧ okM kp b a = true ∧ a.isF = false := by
          unfold cargOf at ha
          by_cases hb : (b || kp) = true
          · rw [if_pos hb] at ha
            cases hao : argOf i (fun en => evE T Φ i en) en with
            | none => rw [hao] at ha; cases ha
            | some p =>
              obtain ⟨a', en1'⟩ := p
              rw [hao] at ha
              have hpe := snd_arg IH hX hS h.1 hao
              cases a' with
              | val d fr =>
                simp only at ha
                cases b with
                | true =>
                  cases fr with
                  | true => cases ha; exact ⟨hpe, rfl, rfl⟩
                  | false => cases ha
                | false =>
                  cases ha
                  exact ⟨d_arg (d_share (r := ⟨d, fr, _⟩) hpe), rfl, rfl⟩
              | pl x =>
                simp only at ha
                cases ha
                cases x with
                | loc j =>
                  refine ⟨hpe, ?_, rfl⟩
                  cases b with
                  | true => rfl
                  | false => show kp = true; simpa using hb
                | fld n f =>
                  unfold argOf at hao
                  split at hao
                  · split at hao <;> cases hao
                  · split at hao <;> cases hao
          · rw [if_neg hb] at ha
            have hb0 : b = false := by cases b <;> simp_all
            subst hb0
            dsimp only at ha
            cases hre : evE T Φ i en with
            | none => rw [hre] at ha; cases ha
            | some r =>
              rw [hre] at ha
              cases ha
              exact ⟨d_arg (d_share (IH.e X S hX hS e i h.1 en r hre)), rfl, rfl⟩
        refine ⟨d_cons (q1 := false) (q2 := false) key.1 ih1 (fun z => by rw [key.2.2] at z; cases z) (star_c hst), ?_⟩
        show (okM kp b a && avOk kp io as) = true
        rw [key.2.1, ih2]; rfl
  | [], [], _ :: _, _, _, _, h, _, _ => by cases h
  | [], _ :: _, [], _, _, _, h, _, _ => by cases h
  | _ :: _, [], [], _, _, _, _, _, hv => by simp [evCArgs] at hv
  | [], _ :: _, _ :: _, _, _, _, _, _, hv => by simp [evCArgs] at hv
  | _ :: _, [], _ :: _, _, _, _, h, _, _ => by cases h
  | _ :: _, _ :: _, [], _, _, _, h, _, _ => by cases h
end
end Py
/-! What is checked is true: expressions, one by one. -/
namespace Py
open PySem PySem.Spec PyProof.Rows L2
open Classical
section
variable {C : CT} {T : Tab} {Φ : Nat → FnSem} {G : Gb} {rec : Sc → Expr → IE → Bool} {X : Cx} {S : Sc} {W W' : Wd} {q : Bool} {en en' en1 en2 : Stt} {r : R} {av : AV} {b : Bool} {e : Expr}
theorem argOf_noF {i : IE} {f : Stt → Option R} (h : argOf i f en = some (av, en')) : av.isF = false := by
  unfold argOf at h
  cases hl : isLoc i with
  | none =>
    rw [hl] at h
    simp only at h
    cases hr : f en with
    | none => rw [hr] at h; cases h
    | some r => rw [hr] at h; cases h; rfl
  | some j =>
    rw [hl] at h
    simp only at h
    cases hs : en.loc[j]? with
    | none => rw [hs] at h; cases h
    | some s => rw [hs] at h; cases s <;> first | cases h; rfl | cases h
theorem noF {p : Prop} {i : IE} {f : Stt → Option R} (h : argOf i f en = some (av, en')) : av.isF = true → p := fun z => by rw [argOf_noF h] at z; cases z
theorem pe_nev {e : Expr} : PE X e (fun _ _ _ => False) := ⟨fun _ _ _ _ _ _ h => h.elim⟩
theorem op_nev {f : Value → Value → Sem Value} : OpR X f (fun _ _ _ _ => False) := by
  intro pins s σ H x y v u Q I rx ry h
  exact h.elim
theorem arm_loc (hX : Hd C T Φ G X) (hS : SOk X S) {i : Nat} (h : ckE rec C S e (.loc i) = true) (hv : evE T Φ (.loc i) en = some r) : PE X e (tD G false en r) := by
  unfold ckE at h
  dsimp only at h
  split at h
  · rename_i x p
    obtain ⟨hn, hvis⟩ := ckN_N h
    have hd := dbg_of (hS.dbg x (List.mem_of_getElem? hn))
    unfold evE at hv
    exact q_e (d_loc hX.hG (by rw [hS.hN]; exact hn) (by rw [hS.hsc]; exact hS.vis i x hvis hn) hd.1 hd.2 hv)
  · cases h
theorem arm_cst (hX : Hd C T Φ G X) (hS : SOk X S) {d : D} (h : ckE rec C S e (.cst d) = true) (hv : evE T Φ (.cst d) en = some r) : PE X e (tD G false en r) := by
  unfold evE at hv
  cases hv
  unfold ckE at h
  dsimp only at h
  split at h
  · rename_i c k p
    cases c <;> cases d <;> first | (cases h; done) | skip
    · exact q_e (d_cst hX.hG pe_non fun _ _ => .non)
    · rename_i x y
      have : x = y := eq_of_beq h
      subst this
      exact q_e (d_cst hX.hG pe_bl fun _ _ => .bl _)
    · rename_i x y
      have : x = y := eq_of_beq h
      subst this
      exact q_e (d_cst hX.hG pe_int fun _ _ => .int _)
    · rename_i x y
      have : x = y := sEq_eq h
      subst this
      exact q_e (d_cst hX.hG pe_str fun _ _ => .str _)
  · rename_i x p
    rw [Bool.and_eq_true, Bool.and_eq_true] at h
    obtain ⟨⟨h1, h2⟩, h3⟩ := h
    split at h3
    · rename_i d' hc
      obtain ⟨u, v, z1, z2, z3⟩ := hX.cn x d' hc
      have e : d' = d := by
        unfold sameC at h3
        split at h3
        · rw [eq_of_beq h3]
        · rw [eq_of_beq h3]
        · rfl
        · rw [sEq_eq h3]
        · cases h3
      subst e
      exact q_e (d_cst hX.hG (pe_glob (gl_of hS h1) z1 z2 (dbg_of h2).1) z3)
    · cases h3
  · cases h
theorem arm_tup (IH : Snd C T Φ G rec) (hX : Hd C T Φ G X) (hS : SOk X S) {is : List IE} (h : ckE rec C S e (.tup is) = true) (hv : evE T Φ (.tup is) en = some r) : PE X e (tD G false en r) := by
  unfold ckE at h
  dsimp only at h
  split at h
  · rename_i es k p
    rw [Bool.and_eq_true] at h
    unfold evE at hv
    cases hl : evL T Φ is en with
    | none => rw [hl] at hv; cases hv
    | some pp =>
      obtain ⟨ds, en'⟩ := pp
      rw [hl] at hv
      simp only at hv
      split at hv
      · rename_i hz
        cases hv
        exact d_tup hX.hG (snd_l IH hX hS h.2 h.1 hl) hz
      · cases hv
  · cases h
theorem arm_lst (IH : Snd C T Φ G rec) (hX : Hd C T Φ G X) (hS : SOk X S) {is : List IE} (h : ckE rec C S e (.lst is) = true) (hv : evE T Φ (.lst is) en = some r) : PE X e (tD G false en r) := by
  unfold ckE at h
  dsimp only at h
  split at h
  · rename_i es p
    rw [Bool.and_eq_true] at h
    unfold evE at hv
    cases hl : evL T Φ is en with
    | none => rw [hl] at hv; cases hv
    | some pp =>
      obtain ⟨ds, en'⟩ := pp
      rw [hl] at hv
      simp only at hv
      split at hv
      · rename_i hz
        cases hv
        exact d_lst hX.hG (snd_l IH hX hS h.2 h.1 hl) hz
      · cases hv
  · cases h
/-- two arguments, from their readings -/
theorem two {α : Type} {a b : IE} {k : AV → AV → Stt → Option α} {z : α}
    (h : (match argOf a (fun en => evE T Φ a en) en with | some (x, en1) => (match argOf b (fun en => evE T Φ b en) en1 with | some (y, en2) => k x y en2 | none => none) | none => none) = some z) :
    ∃ x en1 y en2, argOf a (fun en => evE T Φ a en) en = some (x, en1) ∧ argOf b (fun en => evE T Φ b en) en1 = some (y, en2) ∧ k x y en2 = some z := by
  cases ha : argOf a (fun en => evE T Φ a en) en with
  | none => rw [ha] at h; cases h
  | some p =>
    obtain ⟨x, en1⟩ := p
    rw [ha] at h
    simp only at h
    cases hb : argOf b (fun en => evE T Φ b en) en1 with
    | none => rw [hb] at h; cases h
    | some p =>
      obtain ⟨y, en2⟩ := p
      rw [hb] at h
      exact ⟨x, en1, y, en2, rfl, hb, h⟩
theorem dats {α : Type} {x y : AV} {k : D → D → Option α} {z : α} (h : (match x.dat en, y.dat en with | some d, some e => k d e | _, _ => none) = some z) : ∃ d e, x.dat en = some d ∧ y.dat en = some e ∧ k d e = some z := by
  cases hx : x.dat en with
  | none => rw [hx] at h; cases h
  | some d =>
    cases hy : y.dat en with
    | none => rw [hx, hy] at h; cases h
    | some e => rw [hx, hy] at h; exact ⟨d, e, rfl, rfl, h⟩
theorem arm_bin (IH : Snd C T Φ G rec) (hX : Hd C T Φ G X) (hS : SOk X S) {o : Operator} {a b : IE} (h : ckE rec C S e (.bin o a b) = true) (hv : evE T Φ (.bin o a b) en = some r) : PE X e (tD G false en r) := by
  unfold ckE at h
  dsimp only at h
  split at h
  · rename_i x o' y p
    rw [Bool.and_eq_true, Bool.and_eq_true, decide_eq_true_eq] at h
    obtain ⟨⟨rfl, h1⟩, h2⟩ := h
    unfold evE at hv
    obtain ⟨va, en1, vb, en2, ha, hb, hv⟩ := two hv
    obtain ⟨d, e, hd, he, hv⟩ := dats hv
    cases hz : binD o' d e with
    | none => rw [hz] at hv; cases hv
    | some p =>
      obtain ⟨rd, fr⟩ := p
      rw [hz] at hv
      cases hv
      obtain ⟨rr, ho, hr⟩ := bin_ok (X := X) hX.hG hz
      exact d_op (a := x) (b := y) hX.hG (pe_op ho (snd_arg IH hX hS h1 ha) (snd_arg IH hX hS h2 hb)) (noF ha) hd he hr
  · cases h
theorem behind_no {o : CmpOp} {y : Expr} (h : noSet y = true) : behindInMarks o y = false := by
  cases y <;> first | rfl | cases h
theorem arm_cmp (IH : Snd C T Φ G rec) (hX : Hd C T Φ G X) (hS : SOk X S) {o : CmpOp} {a b : IE} (h : ckE rec C S e (.cmp o a b) = true) (hv : evE T Φ (.cmp o a b) en = some r) : PE X e (tD G false en r) := by
  unfold ckE at h
  dsimp only at h
  split at h
  · rename_i x o' y p
    rw [Bool.and_eq_true, Bool.and_eq_true, Bool.and_eq_true, decide_eq_true_eq] at h
    obtain ⟨⟨⟨rfl, h0⟩, h1⟩, h2⟩ := h
    unfold evE at hv
    obtain ⟨va, en1, vb, en2, ha, hb, hv⟩ := two hv
    obtain ⟨d, e, hd, he, hv⟩ := dats hv
    cases hz : cmpX o' d e with
    | none => rw [hz] at hv; cases hv
    | some p =>
      rw [hz] at hv
      cases hv
      obtain ⟨rr, ho, hr⟩ := cmpX_ok (X := X) hX.hG (by have := hX.hu; omega) hz
      exact d_op (a := x) (b := y) hX.hG (pe_cmpR ho (snd_arg IH hX hS h1 ha) (snd_arg IH hX hS h2 hb) (behind_no h0)) (noF ha) hd he hr
  · cases h
theorem arm_cmpT (IH : Snd C T Φ G rec) (hX : Hd C T Φ G X) (hS : SOk X S) {o : CmpOp} {a b : IE} {k fr : Bool} (h : ckE rec C S e (.cmp o a b) = true) (hv : evE T Φ (.cmp o a b) en = some ⟨.bl k, fr, en'⟩) : PT X e (tDT G false en k en') := by
  unfold ckE at h
  dsimp only at h
  split at h
  · rename_i x o' y p
    rw [Bool.and_eq_true, Bool.and_eq_true, Bool.and_eq_true, decide_eq_true_eq] at h
    obtain ⟨⟨⟨rfl, h0⟩, h1⟩, h2⟩ := h
    unfold evE at hv
    obtain ⟨va, en1, vb, en2, ha, hb, hv⟩ := two hv
    obtain ⟨d, e, hd, he, hv⟩ := dats hv
    cases hz : cmpX o' d e with
    | none => rw [hz] at hv; cases hv
    | some p =>
      rw [hz] at hv
      cases hv
      obtain ⟨rr, ho, hr⟩ := cmpX_ok (X := X) hX.hG (by have := hX.hu; omega) hz
      exact d_cmpT hX.hG ho (snd_arg IH hX hS h1 ha) (snd_arg IH hX hS h2 hb) (noF ha) hd he hr (behind_no h0)
  · cases h
theorem arm_idx (IH : Snd C T Φ G rec) (hX : Hd C T Φ G X) (hS : SOk X S) {a b : IE} (h : ckE rec C S e (.idx a b) = true) (hv : evE T Φ (.idx a b) en = some r) : PE X e (tD G false en r) := by
  unfold ckE at h
  dsimp only at h
  split at h
  · rename_i x y p
    rw [Bool.and_eq_true, Bool.and_eq_true] at h
    obtain ⟨⟨h0, h1⟩, h2⟩ := h
    unfold evE at hv
    obtain ⟨va, en1, vb, en2, ha, hb, hv⟩ := two hv
    obtain ⟨d, e, hd, he, hv⟩ := dats hv
    cases hz : idxD d e with
    | none => rw [hz] at hv; cases hv
    | some p =>
      rw [hz] at hv
      cases hv
      obtain ⟨rr, ho, hr⟩ := idx_ok (X := X) hX.hG hz
      refine d_op (a := x) (b := y) hX.hG (pe_ix ho (snd_arg IH hX hS h1 ha) (snd_arg IH hX hS h2 hb) ?_) (noF ha) hd he hr
      cases y <;> first | (intro _ _; rfl) | cases h0
  · cases h
theorem arm_neg (IH : Snd C T Φ G rec) (hX : Hd C T Φ G X) (hS : SOk X S) {a : IE} (h : ckE rec C S e (.neg a) = true) (hv : evE T Φ (.neg a) en = some r) : PE X e (tD G false en r) := by
  unfold ckE at h
  dsimp only at h
  split at h
  · unfold evE at hv
    cases ha : evE T Φ a en with
    | none => rw [ha] at hv; cases hv
    | some r' =>
      rw [ha] at hv
      obtain ⟨d, fr, en'⟩ := r'
      cases d <;> first | (cases hv; done) | skip
      cases hv
      exact d_neg (IH.e X S hX hS _ _ h en _ ha)
  · cases h
theorem arm_not (IH : Snd C T Φ G rec) (hX : Hd C T Φ G X) (hS : SOk X S) {a : IE} (h : ckE rec C S e (.not a) = true) (hv : evE T Φ (.not a) en = some r) : PE X e (tD G false en r) := by
  unfold ckE at h
  dsimp only at h
  split at h
  · unfold evE at hv
    cases ha : evE T Φ a en with
    | none => rw [ha] at hv; cases hv
    | some r' =>
      rw [ha] at hv
      obtain ⟨d, fr, en'⟩ := r'
      cases d <;> first | (cases hv; done) | skip
      cases hv
      exact d_not (IH.e X S hX hS _ _ h en _ ha)
  · cases h
theorem arm_notT (IH : Snd C T Φ G rec) (hX : Hd C T Φ G X) (hS : SOk X S) {a : IE} {k fr : Bool} (h : ckE rec C S e (.not a) = true) (hv : evE T Φ (.not a) en = some ⟨.bl k, fr, en'⟩) : PT X e (tDT G false en k en') := by
  unfold ckE at h
  dsimp only at h
  split at h
  · unfold evE at hv
    cases ha : evE T Φ a en with
    | none => rw [ha] at hv; cases hv
    | some r' =>
      rw [ha] at hv
      obtain ⟨d, fr, en'⟩ := r'
      cases d <;> first | (cases hv; done) | skip
      cases hv
      exact d_notT (IH.t X S hX hS _ _ h en _ _ _ ha)
  · cases h
/-! and, or -/
theorem pw_pt {op : BoolOp} {vs : List Expr} {pos : Pos} {t : TT} (h : PT X (.BoolOp op vs pos) t) : PW X (.BoolOp op vs pos) t := ⟨fun whole pins s σ H Q I w => h.run pins s σ H Q I w⟩
theorem arm_and (IH : Snd C T Φ G rec) (hX : Hd C T Φ G X) (hS : SOk X S) {a b : IE} (h : ckE rec C S e (.and a b) = true) (hv : evE T Φ (.and a b) en = some r) : PE X e (tD G false en r) := by
  unfold ckE at h
  dsimp only at h
  split at h
  · rename_i x y rest pos
    rw [Bool.and_eq_true] at h
    obtain ⟨h1, h2⟩ := h
    unfold evE at hv
    cases ha : evE T Φ a en with
    | none => rw [ha] at hv; cases hv
    | some r' =>
      rw [ha] at hv
      obtain ⟨d, fr, en'⟩ := r'
      cases d <;> first | (cases hv; done) | skip
      rename_i k
      have pa := IH.e X S hX hS _ _ h1 en _ ha
      cases k with
      | false =>
        cases hv
        exact d_andV0 pa pe_nev
      | true =>
        simp only at hv
        have hb : PE X (.BoolOp .And (y :: rest) pos) (tD G false en' r) := by
          cases rest with
          | nil => exact pe_one (IH.e X S hX hS _ _ h2 en' _ hv)
          | cons z zs => exact IH.e X S hX hS _ _ h2 en' _ hv
        exact d_andV1 pa hb
  · cases h
theorem arm_or (IH : Snd C T Φ G rec) (hX : Hd C T Φ G X) (hS : SOk X S) {a b : IE} (h : ckE rec C S e (.or a b) = true) (hv : evE T Φ (.or a b) en = some r) : PE X e (tD G false en r) := by
  unfold ckE at h
  dsimp only at h
  split at h
  · rename_i x y rest pos
    rw [Bool.and_eq_true] at h
    obtain ⟨h1, h2⟩ := h
    unfold evE at hv
    cases ha : evE T Φ a en with
    | none => rw [ha] at hv; cases hv
    | some r' =>
      rw [ha] at hv
      obtain ⟨d, fr, en'⟩ := r'
      cases d <;> first | (cases hv; done) | skip
      rename_i k
      have pa := IH.e X S hX hS _ _ h1 en _ ha
      cases k with
      | true =>
        cases hv
        exact d_orV0 pa pe_nev
      | false =>
        simp only at hv
        have hb : PE X (.BoolOp .Or (y :: rest) pos) (tD G false en' r) := by
          cases rest with
          | nil => exact pe_one (IH.e X S hX hS _ _ h2 en' _ hv)
          | cons z zs => exact IH.e X S hX hS _ _ h2 en' _ hv
        exact d_orV1 pa hb
  · cases h
theorem pt_nev {e : Expr} : PT X e (fun _ _ _ => False) := ⟨fun _ _ _ _ _ _ h => h.elim⟩
theorem arm_andT (IH : Snd C T Φ G rec) (hX : Hd C T Φ G X) (hS : SOk X S) {a b : IE} {k fr : Bool} (h : ckE rec C S e (.and a b) = true) (hv : evE T Φ (.and a b) en = some ⟨.bl k, fr, en'⟩) : PT X e (tDT G false en k en') := by
  unfold ckE at h
  dsimp only at h
  split at h
  · rename_i x y rest pos
    rw [Bool.and_eq_true] at h
    obtain ⟨h1, h2⟩ := h
    unfold evE at hv
    cases ha : evE T Φ a en with
    | none => rw [ha] at hv; cases hv
    | some r' =>
      rw [ha] at hv
      obtain ⟨d, fr', en1⟩ := r'
      cases d <;> first | (cases hv; done) | skip
      rename_i k1
      have pa := IH.t X S hX hS _ _ h1 en _ _ _ ha
      cases k1 with
      | false =>
        cases hv
        exact (d_andT0 pa (pw_pt (t := fun _ _ _ => False) pt_nev)).pt
      | true =>
        simp only at hv
        have hb : PW X (.BoolOp .And (y :: rest) pos) (tDT G false en1 k en') := by
          cases rest with
          | nil => exact pw_and1 (IH.t X S hX hS _ _ h2 en1 _ _ _ hv)
          | cons z zs => exact pw_pt (IH.t X S hX hS _ _ h2 en1 _ _ _ hv)
        exact (d_andT1 pa hb).pt
  · cases h
theorem arm_orT (IH : Snd C T Φ G rec) (hX : Hd C T Φ G X) (hS : SOk X S) {a b : IE} {k fr : Bool} (h : ckE rec C S e (.or a b) = true) (hv : evE T Φ (.or a b) en = some ⟨.bl k, fr, en'⟩) : PT X e (tDT G false en k en') := by
  unfold ckE at h
  dsimp only at h
  split at h
  · rename_i x y rest pos
    rw [Bool.and_eq_true] at h
    obtain ⟨h1, h2⟩ := h
    unfold evE at hv
    cases ha : evE T Φ a en with
    | none => rw [ha] at hv; cases hv
    | some r' =>
      rw [ha] at hv
      obtain ⟨d, fr', en1⟩ := r'
      cases d <;> first | (cases hv; done) | skip
      rename_i k1
      have pa := IH.t X S hX hS _ _ h1 en _ _ _ ha
      cases k1 with
      | true =>
        cases hv
        exact (d_orT0 pa (pw_pt (t := fun _ _ _ => False) pt_nev)).pt
      | false =>
        simp only at hv
        have hb : PW X (.BoolOp .Or (y :: rest) pos) (tDT G false en1 k en') := by
          cases rest with
          | nil => exact pw_or1 (IH.t X S hX hS _ _ h2 en1 _ _ _ hv)
          | cons z zs => exact pw_pt (IH.t X S hX hS _ _ h2 en1 _ _ _ hv)
        exact (d_orT1 pa hb).pt
  · cases h
theorem arm_ite (IH : Snd C T Φ G rec) (hX : Hd C T Φ G X) (hS : SOk X S) {c a b : IE} (h : ckE rec C S e (.ite c a b) = true) (hv : evE T Φ (.ite c a b) en = some r) : PE X e (tD G false en r) := by
  unfold ckE at h
  dsimp only at h
  split at h
  · rename_i x y z pos
    rw [Bool.and_eq_true, Bool.and_eq_true] at h
    obtain ⟨⟨h1, h2⟩, h3⟩ := h
    unfold evE at hv
    cases ha : evE T Φ c en with
    | none => rw [ha] at hv; cases hv
    | some r' =>
      rw [ha] at hv
      obtain ⟨d, fr, en'⟩ := r'
      cases d <;> first | (cases hv; done) | skip
      rename_i k
      have pc := IH.t X S hX hS _ _ h1 en _ _ _ ha
      cases k with
      | true => exact d_ite1 pc (IH.e X S hX hS _ _ h2 en' _ hv) pe_nev
      | false => exact d_ite0 pc pe_nev (IH.e X S hX hS _ _ h3 en' _ hv)
  · cases h
theorem pt_ifE {c a b : Expr} {pos : Pos} {tc ta tb : TT} (hc : PT X c tc) (ha : PT X a ta) (hb : PT X b tb) : PT X (.IfExp c a b pos) (fun σ H Q => tc σ H fun k H1 => if k = true then ta σ H1 Q else tb σ H1 Q) := by
  refine ⟨fun pins s σ H Q I h => ?_⟩
  rw [PySem.arm_isTrue_IfExp]
  refine wpAny_bind (thn (hc.run pins s σ H _ I h) fun k s1 ⟨H1, I1, q1⟩ => ?_)
  cases k with
  | true => exact ha.run pins s1 σ H1 Q I1 q1
  | false => exact hb.run pins s1 σ H1 Q I1 q1
end
end Py
/-! What is checked is true: expressions, the rest. -/
namespace Py
open PySem PySem.Spec PyProof.Rows L2
open Classical
section
variable {C : CT} {T : Tab} {Φ : Nat → FnSem} {G : Gb} {rec : Sc → Expr → IE → Bool} {X : Cx} {S : Sc} {W W' : Wd} {q : Bool} {en en' en1 en2 en3 : Stt} {r : R} {av x y z : AV} {b : Bool} {e : Expr}
/-! ### chains -/
theorem ch_run (hG : G.K = X.K) {ea eb ec : Expr} {d1 d2 d3 d4 : D} {rr rr' : R2} {k : Bool} {σ : L2.St} {H : Hp} {Q : VK} (hx : x.isF = false) (hy : y.isF = false) (hd1 : x.dat en2 = some d1) (hd2 : y.dat en2 = some d2) (hr : Rd2 G rr d1 d2 (.bl true) false)
    (hd3 : y.dat en3 = some d3) (hd4 : z.dat en3 = some d4) (hr' : Rd2 G rr' d3 d4 (.bl k) false) (w : tD G false en ⟨.bl k, false, en3⟩ σ H Q) :
    tChain rr rr' (tArg G false en x en1) (tArg G false en1 y en2) (tArg G false en2 z en3) σ H (fun v H1 => LenOk X.K H1 → Q v H1) := by
  obtain ⟨W, e1, ok, rp, kk⟩ := w
  subst e1
  refine ⟨W, rfl, ok, rp, fun v W1 st1 ok1 rp1 a1 qs1 l1 => ⟨W1, rfl, ok1, rp1, fun u W2 st2 ok2 rp2 a2 qs2 l2 => ?_⟩⟩
  have a1' := a1.step st2 fun z => by rw [hx] at z; cases z
  refine hr W2 v u _ ok2 l2 (a1'.top rp2 hd1) (a2.top rp2 hd2) fun z' W3 ps ok3 vl => ⟨true, vl.bl, iteT ⟨W3, rfl, ok3, rp2.pstep ps, fun t W4 st4 ok4 rp4 a4 qs4 l4 => ?_⟩⟩
  have a2' := (a2.step ps.S fun z => by rw [hy] at z; cases z).step st4 fun z => by rw [hy] at z; cases z
  refine hr' W4 u t _ ok4 l4 (a2'.top rp4 hd3) (a4.top rp4 hd4) fun z5 W5 ps5 ok5 vl5 => fun hl => ?_
  have st := ((st1.trans ok1 st2).trans ok2 ps.S).trans ok3 st4
  exact kk z5 W5 (st.trans ok4 ps5.S) ok5 (rp4.pstep ps5) (vl5.back st) QS.f (by rw [hG]; exact hl)
theorem ch_stop (hG : G.K = X.K) {d1 d2 : D} {rr rr' : R2} {tc : TE} {σ : L2.St} {H : Hp} {Q : VK} (hx : x.isF = false) (hd1 : x.dat en2 = some d1) (hd2 : y.dat en2 = some d2) (hr : Rd2 G rr d1 d2 (.bl false) false)
    (w : tD G false en ⟨.bl false, false, en2⟩ σ H Q) : tChain rr rr' (tArg G false en x en1) (tArg G false en1 y en2) tc σ H (fun v H1 => LenOk X.K H1 → Q v H1) := by
  obtain ⟨W, e1, ok, rp, kk⟩ := w
  subst e1
  refine ⟨W, rfl, ok, rp, fun v W1 st1 ok1 rp1 a1 qs1 l1 => ⟨W1, rfl, ok1, rp1, fun u W2 st2 ok2 rp2 a2 qs2 l2 => ?_⟩⟩
  have a1' := a1.step st2 fun z => by rw [hx] at z; cases z
  refine hr W2 v u _ ok2 l2 (a1'.top rp2 hd1) (a2.top rp2 hd2) fun z' W3 ps ok3 vl => ⟨false, vl.bl, iteF fun hl => ?_⟩
  exact kk _ W3 ((st1.trans ok1 st2).trans ok2 ps.S) ok3 (rp2.pstep ps) (Dat.bl _) QS.f (by rw [hG]; exact hl)
theorem bl_td {k : Bool} {σ : L2.St} {H : Hp} {Q : Bool → Hp → Prop} (w : tDT G false en k en' σ H Q) : tD G false en ⟨.bl k, false, en'⟩ σ H (fun v H1 => ∃ k', v = .bl k' ∧ Q k' H1) := by
  obtain ⟨W, e1, ok, rp, kk⟩ := w
  exact ⟨W, e1, ok, rp, fun v W' a b c d qs l => ⟨k, Val.bl (fr := false) d, kk W' a b c qs l⟩⟩
theorem chn_inv {o p : CmpOp} {a b c : IE} (hv : evE T Φ (.chn o p a b c) en = some r) :
    ∃ x en1 y en2 d e, argOf a (fun en => evE T Φ a en) en = some (x, en1) ∧ argOf b (fun en => evE T Φ b en) en1 = some (y, en2) ∧ x.dat en2 = some d ∧ y.dat en2 = some e ∧
      ((cmpX o d e = some false ∧ r = ⟨.bl false, false, en2⟩) ∨ ∃ z en3 e' g k, cmpX o d e = some true ∧ argOf c (fun en => evE T Φ c en) en2 = some (z, en3) ∧ y.dat en3 = some e' ∧ z.dat en3 = some g ∧ cmpX p e' g = some k ∧ r = ⟨.bl k, false, en3⟩) := by
  unfold evE at hv
  obtain ⟨x, en1, y, en2, ha, hb, hv⟩ := two hv
  obtain ⟨d, e, hd, he, hv⟩ := dats hv
  refine ⟨x, en1, y, en2, d, e, ha, hb, hd, he, ?_⟩
  cases hz : cmpX o d e with
  | none => rw [hz] at hv; cases hv
  | some k =>
    rw [hz] at hv
    cases k with
    | false => cases hv; exact .inl ⟨rfl, rfl⟩
    | true =>
      simp only at hv
      cases hc : argOf c (fun en => evE T Φ c en) en2 with
      | none => rw [hc] at hv; cases hv
      | some q =>
        obtain ⟨z, en3⟩ := q
        rw [hc] at hv
        obtain ⟨e', g, he', hg, hv⟩ := dats hv
        cases hz2 : cmpX p e' g with
        | none => rw [hz2] at hv; cases hv
        | some k =>
          rw [hz2] at hv
          cases hv
          exact .inr ⟨z, en3, e', g, k, rfl, rfl, he', hg, hz2, rfl⟩
theorem arm_chn (IH : Snd C T Φ G rec) (hX : Hd C T Φ G X) (hS : SOk X S) {o p : CmpOp} {a b c : IE} (h : ckE rec C S e (.chn o p a b c) = true) (hv : evE T Φ (.chn o p a b c) en = some r) : PE X e (tD G false en r) := by
  unfold ckE at h
  dsimp only at h
  split at h
  · rename_i ea o' p' eb ec pos
    rw [Bool.and_eq_true, Bool.and_eq_true, Bool.and_eq_true, Bool.and_eq_true, Bool.and_eq_true, decide_eq_true_eq, decide_eq_true_eq] at h
    obtain ⟨⟨⟨⟨⟨rfl, rfl⟩, h0⟩, h1⟩, h2⟩, h3⟩ := h
    have hu : X.A.units + 65 < cLine := by have := hX.hu; omega
    have hm : lastMarks [o', p'] [eb, ec] = false := by
      show behindInMarks p' ec = false
      exact behind_no h0
    obtain ⟨x, en1, y, en2, d, e, ha, hb, hd, he, hh⟩ := chn_inv hv
    rcases hh with ⟨hz, rfl⟩ | ⟨z, en3, e', g, k, hz, hc, he', hg, hz2, rfl⟩
    · obtain ⟨rr, ho, hr⟩ := cmpX_ok (X := X) hX.hG hu hz
      exact pe_imp (pe_chain ho op_nev (snd_arg IH hX hS h1 ha) (snd_arg IH hX hS h2 hb) pe_nev hm) fun σ H Q _ w => ch_stop hX.hG (argOf_noF ha) hd he hr w
    · obtain ⟨rr, ho, hr⟩ := cmpX_ok (X := X) hX.hG hu hz
      obtain ⟨rr', ho', hr'⟩ := cmpX_ok (X := X) hX.hG hu hz2
      exact pe_imp (pe_chain ho ho' (snd_arg IH hX hS h1 ha) (snd_arg IH hX hS h2 hb) (snd_arg IH hX hS h3 hc) hm) fun σ H Q _ w => ch_run (ea := ea) (eb := eb) (ec := ec) hX.hG (argOf_noF ha) (argOf_noF hb) hd he hr he' hg hr' w
  · cases h
theorem arm_chnT (IH : Snd C T Φ G rec) (hX : Hd C T Φ G X) (hS : SOk X S) {o p : CmpOp} {a b c : IE} {kb fr : Bool} (h : ckE rec C S e (.chn o p a b c) = true) (hv : evE T Φ (.chn o p a b c) en = some ⟨.bl kb, fr, en'⟩) : PT X e (tDT G false en kb en') := by
  unfold ckE at h
  dsimp only at h
  split at h
  · rename_i ea o' p' eb ec pos
    rw [Bool.and_eq_true, Bool.and_eq_true, Bool.and_eq_true, Bool.and_eq_true, Bool.and_eq_true, decide_eq_true_eq, decide_eq_true_eq] at h
    obtain ⟨⟨⟨⟨⟨rfl, rfl⟩, h0⟩, h1⟩, h2⟩, h3⟩ := h
    have hu : X.A.units + 65 < cLine := by have := hX.hu; omega
    have hm : lastMarks [o', p'] [eb, ec] = false := by
      show behindInMarks p' ec = false
      exact behind_no h0
    have fin : ∀ {t : TE} {σ : L2.St} {H : Hp} {Q : Bool → Hp → Prop}, t σ H (fun v H1 => LenOk X.K H1 → ∃ k', v = .bl k' ∧ Q k' H1) → True := fun _ => trivial
    obtain ⟨x, en1, y, en2, d, e, ha, hb, hd, he, hh⟩ := chn_inv hv
    rcases hh with ⟨hz, hr0⟩ | ⟨z, en3, e', g, k, hz, hc, he', hg, hz2, hr0⟩
    · cases hr0
      obtain ⟨rr, ho, hr⟩ := cmpX_ok (X := X) hX.hG hu hz
      refine pt_imp (pt_chain ho op_nev (snd_arg IH hX hS h1 ha) (snd_arg IH hX hS h2 hb) pe_nev hm) fun σ H Q _ w => ?_
      obtain ⟨W, e1, ok, rp, kk⟩ := w
      subst e1
      refine ⟨W, rfl, ok, rp, fun v W1 st1 ok1 rp1 a1 qs1 l1 => ⟨W1, rfl, ok1, rp1, fun u W2 st2 ok2 rp2 a2 qs2 l2 => ?_⟩⟩
      have a1' := a1.step st2 fun z => by rw [argOf_noF ha] at z; cases z
      refine hr W2 v u _ ok2 l2 (a1'.top rp2 hd) (a2.top rp2 he) fun z' W3 ps ok3 vl => ⟨false, vl.bl, iteF ⟨false, rfl, fun hl => ?_⟩⟩
      exact kk W3 ((st1.trans ok1 st2).trans ok2 ps.S) ok3 (rp2.pstep ps) QS.f (by rw [hX.hG]; exact hl)
    · cases hr0
      obtain ⟨rr, ho, hr⟩ := cmpX_ok (X := X) hX.hG hu hz
      obtain ⟨rr', ho', hr'⟩ := cmpX_ok (X := X) hX.hG hu hz2
      refine pt_imp (pt_chain ho ho' (snd_arg IH hX hS h1 ha) (snd_arg IH hX hS h2 hb) (snd_arg IH hX hS h3 hc) hm) fun σ H Q _ w => ?_
      obtain ⟨W, e1, ok, rp, kk⟩ := w
      subst e1
      refine ⟨W, rfl, ok, rp, fun v W1 st1 ok1 rp1 a1 qs1 l1 => ⟨W1, rfl, ok1, rp1, fun u W2 st2 ok2 rp2 a2 qs2 l2 => ?_⟩⟩
      have a1' := a1.step st2 fun z => by rw [argOf_noF ha] at z; cases z
      refine hr W2 v u _ ok2 l2 (a1'.top rp2 hd) (a2.top rp2 he) fun z' W3 ps ok3 vl => ⟨true, vl.bl, iteT ⟨W3, rfl, ok3, rp2.pstep ps, fun t W4 st4 ok4 rp4 a4 qs4 l4 => ?_⟩⟩
      have a2' := (a2.step ps.S fun z => by rw [argOf_noF hb] at z; cases z).step st4 fun z => by rw [argOf_noF hb] at z; cases z
      refine hr' W4 u t _ ok4 l4 (a2'.top rp4 he') (a4.top rp4 hg) fun z5 W5 ps5 ok5 vl5 => ⟨_, vl5.bl, fun hl => ?_⟩
      have st := ((st1.trans ok1 st2).trans ok2 ps.S).trans ok3 st4
      exact kk W5 (st.trans ok4 ps5.S) ok5 (rp4.pstep ps5) QS.f (by rw [hX.hG]; exact hl)
  · cases h
/-! ### calls -/
theorem arm_call (IH : Snd C T Φ G rec) (hX : Hd C T Φ G X) (hS : SOk X S) {f : Nat} {is : List IE} (h : ckE rec C S e (.call f is) = true) (hv : evE T Φ (.call f is) en = some r) : PE X e (tD G false en r) := by
  unfold ckE at h
  dsimp only at h
  split at h
  · rename_i x p es pos
    rw [Bool.and_eq_true, Bool.and_eq_true, Bool.and_eq_true, Bool.and_eq_true] at h
    obtain ⟨⟨⟨⟨h1, h2⟩, h3⟩, h4⟩, h5⟩ := h
    obtain rfl := sEq_eq h1
    unfold evE at hv
    cases hc : evCArgs T Φ (T.io f) (T.kp f && !(T.ob f)) is en with
    | none => rw [hc] at hv; cases hv
    | some pp =>
      obtain ⟨avs, en1⟩ := pp
      rw [hc] at hv
      simp only at hv
      obtain ⟨ha, hm⟩ := snd_c IH hX hS h5 h4 hc
      have hphi : ∃ ds obs r', Φ f ds obs = some r' := by
        unfold callF at hv
        split at hv
        · split at hv
          · split at hv
            · split at hv
              · exact ⟨_, _, _, by assumption⟩
              · cases hv
            · split at hv
              · split at hv
                · exact ⟨_, _, _, by assumption⟩
                · cases hv
              · cases hv
          · cases hv
        · cases hv
      obtain ⟨ds, obs, r', hp⟩ := hphi
      obtain ⟨fa, fd, ps, k, z1, z2, z3, z4, z5⟩ := hX.fn f ds obs r' hp
      cases es with
      | nil =>
        cases is with
        | cons i is => cases h5
        | nil =>
          have hio : T.io f = [] := by
            cases q : T.io f with
            | nil => rfl
            | cons b io => rw [q] at hc; simp [evCArgs] at hc
          rw [hio] at hc
          unfold evCArgs at hc
          cases hc
          exact d_call0 hX.hG T Φ f z4 z5 hX.ga (gl_of hS h2) z1 z2 z3 hio hv (dbg_of h3).1
      | cons e1 es => exact d_call hX.hG T Φ f z4 z5 hX.ga (gl_of hS h2) z1 z2 z3 ha hm hv (dbg_of h3).1 h4
  · cases h
theorem boot_prim (p : Prim) (h : primN p ≠ "") : bootBuiltins (primN p) = some p.val := by
  cases p <;> first | decide +kernel | exact absurd rfl h
theorem arm_prm0 (IH : Snd C T Φ G rec) (hX : Hd C T Φ G X) (hS : SOk X S) {p : Prim} {is : List IE} (hpn : primN p ≠ "") {x : Str} {e1 : Expr} {es : List Expr} {p1 p2 : Pos}
    (h : (sEq x (primN p) && ckGl S (primN p) && noStar (e1 :: es) && ckL (rec S) (e1 :: es) is) = true)
    (hv : (match evArgs T Φ is en with | some (avs, en') => (match avDats en' avs with | some ds => (match primX p ds with | some (r, fr) => some (R.mk r fr en') | none => none) | none => none) | none => none) = some r) : PE X (.Call (.Name x p1) (e1 :: es) [] p2) (tD G false en r) := by
  rw [Bool.and_eq_true, Bool.and_eq_true, Bool.and_eq_true] at h
  obtain ⟨⟨⟨h1, h2⟩, h3⟩, h4⟩ := h
  obtain rfl := sEq_eq h1
  cases ha : evArgs T Φ is en with
  | none => rw [ha] at hv; cases hv
  | some pp =>
    obtain ⟨avs, en1⟩ := pp
    rw [ha] at hv
    simp only at hv
    cases hd : avDats en1 avs with
    | none => rw [hd] at hv; cases hv
    | some ds =>
      rw [hd] at hv
      simp only at hv
      cases hz : primX p ds with
      | none => rw [hz] at hv; cases hv
      | some q =>
        obtain ⟨rd, fr⟩ := q
        rw [hz] at hv
        cases hv
        obtain ⟨rr, hcr, hr⟩ := primX_ok (X := X) hX.hG hX.calm (by have := hX.hu; omega) hX.ga hX.sm hz
        have pa := snd_args IH hX hS h4 h3 ha
        have hg := gl_of hS h2
        have hb := boot_prim p hpn
        have hst := star_c (X := X) h3
        have hpl : (backTo p2 (starEach es X.env)).any (·.1) = false := back_any (star_t h3)
        have hnn : ∀ y : Str, (y ∈ bnames → X.mg y = none) := fun y hy => hX.bl y hy
        have key : PE X (.Call (.Name (primN p) p1) (e1 :: es) [] p2) (tCB rr (tArgs G false en avs en1)) := by
          cases p <;> first
            | exact absurd rfl hpn
            | exact pe_callB hcr hg (hX.bl _ (by decide +kernel)) hb pa (hn := by decide +kernel) (hdb := by decide +kernel) (he := hst) (hpl := hpl)
            | exact pe_callTy hcr hg (hX.bl _ (by decide +kernel)) hb pa (hn := by decide +kernel) (hdb := by decide +kernel) (he := hst) (hpl := hpl)
        exact d_prim hX.hG key hd hr
end
end Py
/-! What is checked is true: built-ins, slices, methods. -/
namespace Py
open PySem PySem.Spec PyProof.Rows L2
open Classical
section
variable {C : CT} {T : Tab} {Φ : Nat → FnSem} {G : Gb} {rec : Sc → Expr → IE → Bool} {X : Cx} {S : Sc} {W W' : Wd} {q : Bool} {en en' en1 en2 en3 : Stt} {r : R} {av x y z : AV} {b : Bool} {e : Expr}
theorem arm_prm (IH : Snd C T Φ G rec) (hX : Hd C T Φ G X) (hS : SOk X S) {p : Prim} {is : List IE} (h : ckE rec C S e (.prm p is) = true) (hv : evE T Φ (.prm p is) en = some r) : PE X e (tD G false en r) := by
  unfold ckE at h
  dsimp only at h
  split at h
  · rename_i a x p1 y p2 z pos2 pos
    rw [Bool.and_eq_true, Bool.and_eq_true, Bool.and_eq_true, Bool.and_eq_true, Bool.and_eq_true] at h
    obtain ⟨⟨⟨⟨⟨h1, h2⟩, h3⟩, h4⟩, h5⟩, h6⟩ := h
    obtain rfl := sEq_eq h1
    obtain rfl := sEq_eq h2
    unfold evE at hv
    dsimp only at hv
    cases ha : argOf a (fun en => evE T Φ a en) en with
    | none => rw [ha] at hv; cases hv
    | some pp =>
      obtain ⟨v, en1⟩ := pp
      rw [ha] at hv
      simp only at hv
      cases hd : v.dat en1 with
      | none => rw [hd] at hv; cases hv
      | some d =>
        rw [hd] at hv
        simp only at hv
        cases hz : ssetD d with
        | none => rw [hz] at hv; cases hv
        | some rd =>
          rw [hz] at hv
          cases hv
          exact d_sset hX.hG hX.calm (snd_arg IH hX hS h6 ha) hd hz (gl_of hS h3) (hX.bl _ (by decide +kernel)) (gl_of hS h4) (hX.bl _ (by decide +kernel)) (by simpa using h5)
  · cases h
  · cases h
  · rename_i a x p1 y p2 z pos2 pos
    rw [Bool.and_eq_true, Bool.and_eq_true, Bool.and_eq_true, Bool.and_eq_true, Bool.and_eq_true] at h
    obtain ⟨⟨⟨⟨⟨h1, h2⟩, h3⟩, h4⟩, h5⟩, h6⟩ := h
    obtain rfl := sEq_eq h1
    obtain rfl := sEq_eq h2
    unfold evE at hv
    dsimp only at hv
    cases ha : evE T Φ a en with
    | none => rw [ha] at hv; cases hv
    | some r' =>
      rw [ha] at hv
      obtain ⟨d, fr, en'⟩ := r'
      cases d <;> first | (cases hv; done) | skip
      dsimp only at hv
      split at hv
      · rename_i hb
        cases hv
        exact d_lrg hX.hG hX.calm (IH.e X S hX hS _ _ h6 en _ ha) hb (gl_of hS h3) (hX.bl _ (by decide +kernel)) (gl_of hS h4) (hX.bl _ (by decide +kernel)) (by simpa using h5)
      · cases hv
  · cases h
  · rename_i a x p1 y p2 z pos2 pos
    rw [Bool.and_eq_true, Bool.and_eq_true, Bool.and_eq_true, Bool.and_eq_true, Bool.and_eq_true] at h
    obtain ⟨⟨⟨⟨⟨h1, h2⟩, h3⟩, h4⟩, h5⟩, h6⟩ := h
    obtain rfl := sEq_eq h1
    obtain rfl := sEq_eq h2
    unfold evE at hv
    dsimp only at hv
    cases ha : evE T Φ a en with
    | none => rw [ha] at hv; cases hv
    | some r' =>
      rw [ha] at hv
      obtain ⟨d, fr, en'⟩ := r'
      cases d <;> first | (cases hv; done) | skip
      dsimp only at hv
      split at hv
      · rename_i hb
        cases hv
        exact d_trg hX.hG hX.calm (IH.e X S hX hS _ _ h6 en _ ha) hb (gl_of hS h3) (hX.bl _ (by decide +kernel)) (gl_of hS h4) (hX.bl _ (by decide +kernel)) (by simpa using h5)
      · cases hv
  · cases h
  · rename_i n0 n1 n2 n3 n5 n6 n7
    unfold evE at hv
    have hp : primN p ≠ "" := by
      intro e
      cases p <;> first | exact n0 rfl | exact n1 rfl | exact n2 rfl | exact n3 rfl | exact absurd e (by decide +kernel)
    refine arm_prm0 IH hX hS hp h ?_
    cases p <;> first | exact (n0 rfl).elim | exact (n1 rfl).elim | exact (n2 rfl).elim | exact (n3 rfl).elim | exact hv
  · cases h
theorem evPt_inv {lo : IE} {l : Option Int} {o : Option Expr} (IH : Snd C T Φ G rec) (hX : Hd C T Φ G X) (hS : SOk X S) (h : ckO rec S o lo = true) (hv : ptOf lo (fun en => evE T Φ lo en) en = some (l, en')) : PO X o (tPt G false en l en') := by
  unfold ckO at h
  split at h
  · unfold ptOf at hv
    cases hv
    exact q_o (pt_no hX.hG)
  · rename_i ex
    rw [Bool.and_eq_true] at h
    obtain ⟨h1, h2⟩ := h
    have hv : (match evE T Φ lo en with | some ⟨.int i, _, en'⟩ => some (some i, en') | _ => none) = some (l, en') := by
      unfold ptOf at hv
      cases lo <;> first | exact hv | cases h1
    cases hr : evE T Φ lo en with
    | none => rw [hr] at hv; cases hv
    | some r =>
      rw [hr] at hv
      obtain ⟨d, fr, en1⟩ := r
      cases d <;> first | (cases hv; done) | skip
      cases hv
      exact pt_so (IH.e X S hX hS _ _ h2 en _ hr)
  · cases h
theorem arm_slc (IH : Snd C T Φ G rec) (hX : Hd C T Φ G X) (hS : SOk X S) {a lo hi : IE} (h : ckE rec C S e (.slc a lo hi) = true) (hv : evE T Φ (.slc a lo hi) en = some r) : PE X e (tD G false en r) := by
  unfold ckE at h
  dsimp only at h
  split at h
  · rename_i x l hh p2 pos
    rw [Bool.and_eq_true, Bool.and_eq_true] at h
    obtain ⟨⟨h1, h2⟩, h3⟩ := h
    unfold evE at hv
    cases ha : argOf a (fun en => evE T Φ a en) en with
    | none => rw [ha] at hv; cases hv
    | some pp =>
      obtain ⟨v, en1⟩ := pp
      rw [ha] at hv
      simp only at hv
      cases hb : ptOf lo (fun en => evE T Φ lo en) en1 with
      | none => rw [hb] at hv; cases hv
      | some pp =>
        obtain ⟨l', en2⟩ := pp
        rw [hb] at hv
        simp only at hv
        cases hc : ptOf hi (fun en => evE T Φ hi en) en2 with
        | none => rw [hc] at hv; cases hv
        | some pp =>
          obtain ⟨h', en3⟩ := pp
          rw [hc] at hv
          simp only at hv
          cases hd : v.dat en3 with
          | none => rw [hd] at hv; cases hv
          | some d =>
            rw [hd] at hv
            simp only at hv
            cases hz : slD d l' h' with
            | none => rw [hz] at hv; cases hv
            | some q =>
              obtain ⟨rd, fr⟩ := q
              rw [hz] at hv
              cases hv
              obtain ⟨rr, hr, hlaw⟩ := sl_ok (X := X) hX.hG hz
              exact d_slc hX.hG (snd_arg IH hX hS h1 ha) (evPt_inv IH hX hS h2 hb) (evPt_inv IH hX hS h3 hc) hr hd hlaw (fun z => by rw [argOf_noF ha] at z; cases z)
  · cases h
theorem arm_rev (IH : Snd C T Φ G rec) (hX : Hd C T Φ G X) (hS : SOk X S) {a : IE} (h : ckE rec C S e (.rev a) = true) (hv : evE T Φ (.rev a) en = some r) : PE X e (tD G false en r) := by
  unfold ckE at h
  dsimp only at h
  split at h
  · rename_i x k p1 p2 p3 pos
    unfold evE at hv
    cases ha : argOf a (fun en => evE T Φ a en) en with
    | none => rw [ha] at hv; cases hv
    | some pp =>
      obtain ⟨v, en1⟩ := pp
      rw [ha] at hv
      simp only at hv
      cases hd : v.dat en1 with
      | none => rw [hd] at hv; cases hv
      | some d =>
        rw [hd] at hv
        simp only at hv
        cases hz : revD d with
        | none => rw [hz] at hv; cases hv
        | some q =>
          obtain ⟨rd, fr⟩ := q
          rw [hz] at hv
          cases hv
          exact q_e (d_rev hX.hG (snd_arg IH hX hS h ha) hd hz)
  · cases h
theorem arm_dic (IH : Snd C T Φ G rec) (hX : Hd C T Φ G X) (hS : SOk X S) {ks vs : List IE} (h : ckE rec C S e (.dic ks vs) = true) (hv : evE T Φ (.dic ks vs) en = some r) : PE X e (tD G false en r) := by
  unfold ckE at h
  dsimp only at h
  split at h
  · unfold evE at hv
    cases hv
    exact q_e (d_dnew hX.hG)
  · cases h
theorem boot_ty {t : Ty} (h : (match t with | .cls _ => false | _ => true) = true) : bootBuiltins (tyN t) = some (.type (tyS t)) ∧ tyN t ∈ bnames ∧ tyN t ≠ "__name__" ∧ (tyN t == ("__debug__" : Str)) = false := by
  cases t <;> first | (refine ⟨by decide +kernel, by decide +kernel, by decide +kernel, by decide +kernel⟩) | cases h
theorem tysD_paired {d : D} : ∀ {ts : List Ty} {bs : List Bool}, tysD d ts = some bs → Paired (fun t b => tyOf d t = some b) ts bs
  | [], _, h => by cases h; exact .nil
  | t :: ts, bs, h => by
    unfold tysD at h
    cases h1 : tyOf d t with
    | none => rw [h1] at h; cases h
    | some b =>
      cases h2 : tysD d ts with
      | none => rw [h1, h2] at h; cases h
      | some bs' =>
        rw [h1, h2] at h
        cases h
        exact .cons h1 (tysD_paired h2)
theorem tyNames_of (hX : Hd C T Φ G X) (hS : SOk X S) : ∀ {es : List Expr} {ts : List Ty}, ckTys S es ts = true → TyNames X es ts
  | [], [], _ => tyn_nil
  | .Name x p :: es, t :: ts, h => by
    unfold ckTys at h
    rw [Bool.and_eq_true, Bool.and_eq_true, Bool.and_eq_true] at h
    obtain ⟨⟨⟨h1, h2⟩, h3⟩, h4⟩ := h
    obtain rfl := sEq_eq h1
    obtain ⟨k1, k2, k3, k4⟩ := boot_ty h3
    exact tyn_cons (tyNames_of hX hS h4) (gl_of hS h2) (hX.bl _ k2) k1 k3 k4 rfl
  | [], _ :: _, h => by cases h
  | .Name _ _ :: _, [], h => by cases h
theorem arm_isi (IH : Snd C T Φ G rec) (hX : Hd C T Φ G X) (hS : SOk X S) {a : IE} {ts : List Ty} (h : ckE rec C S e (.isi a ts) = true) (hv : evE T Φ (.isi a ts) en = some r) : PE X e (tD G false en r) := by
  unfold ckE at h
  dsimp only at h
  split at h
  · rename_i f p1 x t pos
    rw [Bool.and_eq_true, Bool.and_eq_true, Bool.and_eq_true, Bool.and_eq_true] at h
    obtain ⟨⟨⟨⟨h1, h2⟩, h3⟩, h4⟩, h5⟩ := h
    obtain rfl := sEq_eq h1
    have hst : isStar x = false := by simpa using h3
    unfold evE at hv
    cases ha : argOf a (fun en => evE T Φ a en) en with
    | none => rw [ha] at hv; cases hv
    | some pp =>
      obtain ⟨v, en1⟩ := pp
      rw [ha] at hv
      simp only at hv
      cases hd : v.dat en1 with
      | none => rw [hd] at hv; cases hv
      | some d =>
        rw [hd] at hv
        simp only at hv
        cases hz : tysD d ts with
        | none => rw [hz] at hv; cases hv
        | some bs =>
          rw [hz] at hv
          cases hv
          split at h5
          · rename_i y p
            cases ts with
            | nil => cases h5
            | cons t ts =>
              unfold ckTys at h5
              rw [Bool.and_eq_true, Bool.and_eq_true, Bool.and_eq_true] at h5
              obtain ⟨⟨⟨k1, k2⟩, k3⟩, k4⟩ := h5
              obtain rfl := sEq_eq k1
              cases ts with
              | cons t2 ts => cases k4
              | nil =>
                obtain ⟨g1, g2, g3, g4⟩ := boot_ty k3
                have pz := tysD_paired hz
                cases pz with
                | cons hb hn =>
                  cases hn
                  rename_i bb
                  have e : ([bb].any id) = bb := by simp
                  rw [e]
                  exact d_isi hX.hG (snd_arg IH hX hS h4 ha) hd hb (gl_of hS h2) (hX.bl _ (by decide +kernel)) (gl_of hS k2) (hX.bl _ g2) g1 g3 g4 (star_cons hst) rfl
          · rename_i es k p
            rw [Bool.and_eq_true, Bool.and_eq_true, Bool.and_eq_true, decide_eq_true_eq, decide_eq_true_eq] at h5
            obtain ⟨⟨⟨k1, k2⟩, k3⟩, k4⟩ := h5
            exact d_isiT hX.hG (snd_arg IH hX hS h4 ha) hd (tysD_paired hz) (fun z => by subst z; simp at k1) (gl_of hS h2) (hX.bl _ (by decide +kernel)) (tyNames_of hX hS k4) k2 (star_cons hst) rfl
          · cases h5
  · cases h
end
end Py
/-! What is checked is true: methods, comprehensions; all of it. -/
namespace Py
open PySem PySem.Spec PyProof.Rows L2
open Classical
section
variable {C : CT} {T : Tab} {Φ : Nat → FnSem} {G : Gb} {rec : Sc → Expr → IE → Bool} {X : Cx} {S : Sc} {W W' : Wd} {q : Bool} {en en' en1 en2 en3 : Stt} {r : R} {av x y z : AV} {b : Bool} {e : Expr}
theorem base_no {o : Expr} {name : Str} {env : Env} (h : noSuper o = true) : attributeBase o name env (eval o env) = eval o env := by
  cases o <;> first | rfl | skip
  rename_i f as ks p
  cases as with
  | nil => cases h
  | cons a as => cases f <;> rfl
theorem back_all {pos : Pos} {env : Env} : ∀ {es : List Expr}, noStar es = true → ((backTo pos (starEach es env)).all (fun x => !x.1)) = true
  | [], _ => rfl
  | e :: es, h => by
    have h1 : isStar e = false := by
      unfold noStar at h
      rw [List.all_cons, Bool.and_eq_true] at h
      simpa using h.1
    rw [star_cons h1]
    show (!false && _) = true
    exact back_all (star_t h)
theorem few_of {pos : Pos} {env : Env} {e : Expr} {es : List Expr} (h : noStar (e :: es) = true) (hl : es.length < 20) : ((backTo pos (starEach (e :: es) env)).all (fun x => !x.1) && (backToKw pos (keywordEach [] env)).all (fun x => x.1.isSome)
      && decide ((e :: es).length + ([] : List Keyword).length + (if ([] : List Keyword).isEmpty then 0 else 1) < 30)) = true := by
  rw [Bool.and_eq_true, Bool.and_eq_true, decide_eq_true_eq]
  refine ⟨⟨back_all h, rfl⟩, ?_⟩
  show es.length + 1 + 0 + 0 < 30
  omega
theorem arm_mth (IH : Snd C T Φ G rec) (hX : Hd C T Φ G X) (hS : SOk X S) {m : Mth} {o : IE} {is : List IE} (h : ckE rec C S e (.mth m o is) = true) (hv : evE T Φ (.mth m o is) en = some r) : PE X e (tD G false en r) := by
  unfold ckE at h
  dsimp only at h
  split at h
  · rename_i x n ap e1 es cp
    rw [Bool.and_eq_true, Bool.and_eq_true, Bool.and_eq_true, Bool.and_eq_true, Bool.and_eq_true, Bool.and_eq_true, decide_eq_true_eq] at h
    obtain ⟨⟨⟨⟨⟨⟨h1, h2⟩, h3⟩, h4⟩, h5⟩, h6⟩, h7⟩ := h
    obtain rfl := sEq_eq h1
    unfold evE at hv
    cases ha : argOf o (fun en => evE T Φ o en) en with
    | none => rw [ha] at hv; cases hv
    | some pp =>
      obtain ⟨v, en1⟩ := pp
      rw [ha] at hv
      simp only at hv
      cases hb : evArgs T Φ is en1 with
      | none => rw [hb] at hv; cases hv
      | some pp =>
        obtain ⟨avs, en2⟩ := pp
        rw [hb] at hv
        simp only at hv
        cases hd1 : v.dat en1 with
        | none => rw [hd1] at hv; cases hv
        | some d1 =>
          cases hd2 : v.dat en2 with
          | none => rw [hd1, hd2] at hv; cases hv
          | some d2 =>
            cases hds : avDats en2 avs with
            | none => rw [hd1, hd2, hds] at hv; cases hv
            | some ds =>
              rw [hd1, hd2, hds] at hv
              simp only at hv
              by_cases hsame : sameK d1 d2 = true
              rotate_left
              · rw [if_neg hsame] at hv; cases hv
              rw [if_pos hsame] at hv
              cases hz : mthF m d2 ds with
              | none => rw [hz] at hv; cases hv
              | some q =>
                obtain ⟨rd, fr⟩ := q
                rw [hz] at hv
                cases hv
                obtain ⟨Ty, id, rr, bm, hm, hT, hlaw⟩ := mth_ok (X := X) hX.hG (by have := hX.hu; omega) hz
                have key := pe_bm (cpos := cp) (apos := ap) bm.pa bm.slot bm.ty hm (snd_arg IH hX hS h6 ha) (snd_args IH hX hS h7 h4 hb) (hbase := base_no h3) (hfew := few_of h4 h5) (hline := h2) (hs := star_c h4) (hplain := back_any (star_t h4))
                exact d_mth hX.hG key (fun z => by rw [argOf_noF ha] at z; cases z) hd1 (hT d1 hsame) hd2 hds hlaw
  · cases h
theorem arm_mut (IH : Snd C T Φ G rec) (hX : Hd C T Φ G X) (hS : SOk X S) {m : Mut} {o : IE} {is : List IE} (h : ckE rec C S e (.mut m o is) = true) (hv : evE T Φ (.mut m o is) en = some r) : PE X e (tD G false en r) := by
  unfold ckE at h
  dsimp only at h
  split at h
  · rename_i x n ap es cp
    rw [Bool.and_eq_true, Bool.and_eq_true, Bool.and_eq_true, Bool.and_eq_true, Bool.and_eq_true, Bool.and_eq_true, Bool.and_eq_true, decide_eq_true_eq] at h
    obtain ⟨⟨⟨⟨⟨⟨⟨h1, hm0⟩, h2⟩, h3⟩, h4⟩, h5⟩, h6⟩, h7⟩ := h
    obtain rfl := sEq_eq h1
    have hmm : m ≠ .setdefault ∧ m ≠ .update := by constructor <;> (intro z; subst z; cases hm0)
    unfold evE at hv
    cases o <;> first | (cases hv; done) | skip
    rename_i i
    dsimp only at hv
    cases hb : evL T Φ is en with
    | none => rw [hb] at hv; cases hv
    | some pp =>
      obtain ⟨ds, en2⟩ := pp
      rw [hb] at hv
      simp only at hv
      split at hv
      · rename_i hown
        cases he1 : (en.at (.loc i)).dat with
        | none => rw [he1] at hv; cases hv
        | some e1 =>
        cases hd : (en2.at (.loc i)).dat with
        | none => rw [he1, hd] at hv; cases hv
        | some d =>
          rw [he1, hd] at hv
          simp only at hv
          by_cases hsame : sameK e1 d = true
          rotate_left
          · rw [if_neg hsame] at hv; cases hv
          rw [if_pos hsame] at hv
          cases hz : mutD m d ds with
          | none => rw [hz] at hv; cases hv
          | some q =>
            obtain ⟨d', rd⟩ := q
            rw [hz] at hv
            cases hv
            obtain ⟨rr, hm, hlaw, xs, hxs⟩ := mut_law (G := G) (X := X) hz
            have bm := bm_mut m hmm
            have hsl : ∃ s, en.loc[i]? = some s ∧ en.at (.loc i) = s := by
              cases q : en.loc[i]? with
              | none => have : en.at (.loc i) = .no := by show en.loc.getD i .no = _; rw [List.getD, q]; rfl
                        rw [this] at hown; cases hown.1
              | some s => exact ⟨s, rfl, getD_of q⟩
            obtain ⟨s, hs, hat⟩ := hsl
            have ha : argOf (.loc i) (fun en => evE T Φ (.loc i) en) en = some (.pl (.loc i), en) := by
              unfold argOf
              show (match en.loc[i]? with | some (.sh d) => some (AV.val d false, en) | some .no => none | some _ => some (AV.pl (.loc i), en) | none => none) = _
              rw [hs]
              rw [hat] at hown
              cases s <;> first | rfl | cases hown.1
            have pa := snd_arg IH hX hS h6 ha
            have hTy : ∀ W p, Cont G W e1 p → tyV X.K "list" (.ref p) W.H := fun W p hc => by
              subst hxs
              cases e1 <;> (try (cases hsame; done))
              obtain ⟨vs, c1, _⟩ := hc
              exact .inl ⟨rfl, vs, .inl (.inl c1)⟩
            cases es with
            | nil =>
              cases is with
              | cons i is => cases h7
              | nil =>
                unfold evL at hb
                cases hb
                have key := pe_bm0 (cpos := cp) (apos := ap) bm.pa bm.slot bm.ty hm pa (hbase := base_no h3) (hline := h2)
                have hTd : ∀ W p, Cont G W d p → tyV X.K "list" (.ref p) W.H := fun W p hc => by
                  subst hxs
                  obtain ⟨vs, c1, _⟩ := hc
                  exact .inl ⟨rfl, vs, .inl (.inl c1)⟩
                exact d_mut0 hX.hG key hTd hown.1 hd hlaw
            | cons e2 es =>
              have key := pe_bm (cpos := cp) (apos := ap) bm.pa bm.slot bm.ty hm pa (snd_l IH hX hS h7 h4 hb) (hbase := base_no h3) (hfew := few_of h4 (by simp at h5; omega)) (hline := h2) (hs := star_c h4) (hplain := back_any (star_t h4))
              exact d_mut hX.hG key (fun z => nomatch z) hown.1 he1 hTy hown.2 hd hlaw
      · cases hv
  · cases h
end
end Py
/-! What is checked is true: targets, sources, comprehensions; every expression. -/
namespace Py
open PySem PySem.Spec PyProof.Rows L2
open Classical
section
variable {C : CT} {T : Tab} {Φ : Nat → FnSem} {G : Gb} {rec : Sc → Expr → IE → Bool} {X : Cx} {S : Sc} {W W' : Wd} {q : Bool} {en en' en1 en2 en3 : Stt} {r : R} {av x y z : AV} {b : Bool} {e : Expr}
theorem t1_of (hS : SOk X S) {x : Str} {i : Nat} (h : ckT1 S x i = true) : X.N[i]? = some x ∧ Loc X.env.scope x ∧ (X.fn x = true ∨ X.env.scope.names.lookup x = some .local) := by
  unfold ckT1 at h
  rw [Bool.and_eq_true] at h
  obtain ⟨h1, h2⟩ := h
  have hn : S.N[i]? = some x := by
    split at h1
    · rename_i y hy; rw [hy, sEq_eq h1]
    · cases h1
  refine ⟨by rw [hS.hN]; exact hn, ?_⟩
  rw [hS.hsc]
  rw [lookS_eq] at h2
  split at h2
  · rename_i hl
    exact ⟨.inl hl, .inr hl⟩
  · rename_i hl
    refine ⟨.inr hl, .inl ?_⟩
    have hb := hS.blk
    split at h2
    · rename_i hbn
      rw [hbn] at hb
      exact hb x
    · rename_i b hbs
      rw [hbs] at hb
      rw [lookS_eq] at h2
      rw [hb x]
      split at h2
      · rename_i hc; rw [hc]; rfl
      · cases h2
  · cases h2
theorem pgs_of (hX : Hd C T Φ G X) (hS : SOk X S) : ∀ {es : List Expr} {is : List Nat}, ckTs S es is = true → PGs X es (gNames is) ∧ (assignEach es X.env).length = is.length ∧ (assignEach es X.env).findIdx? (·.1) = none
  | [], [], _ => ⟨pgs_nil, rfl, rfl⟩
  | .Name x p :: es, i :: is, h => by
    unfold ckTs at h
    rw [Bool.and_eq_true] at h
    obtain ⟨k1, k2, k3⟩ := t1_of hS h.1
    obtain ⟨i1, i2, i3⟩ := pgs_of hX hS h.2
    refine ⟨pgs_cons (pg_name hX.nd k1 k2 k3) i1, ?_, ?_⟩
    · show (assignEach es X.env).length + 1 = is.length + 1
      rw [i2]
    · show List.findIdx? (·.1) ((false, assign (.Name x p) X.env) :: assignEach es X.env) = none
      rw [List.findIdx?_cons, i3]; rfl
  | [], _ :: _, h => by cases h
  | .Name _ _ :: _, [], h => by cases h
theorem tg_of (hX : Hd C T Φ G X) (hS : SOk X S) {t : Tg} (h : ckTg S e t = true) : PG X e (gT X.K t) := by
  unfold ckTg at h
  split at h
  · obtain ⟨k1, k2, k3⟩ := t1_of hS h
    exact pg_name hX.nd k1 k2 k3
  · obtain ⟨i1, i2, i3⟩ := pgs_of hX hS h
    exact pg_or (pg_tup hX.calm i1 i2 i3) (pg_unl hX.calm i1 i2 i3)
  · cases h
theorem src_of (IH : Snd C T Φ G rec) (hX : Hd C T Φ G X) (hS : SOk X S) {tg e : Expr} {t : Tg} {k : IK} {src : List IE} {xs : List D} {c : Option (Pl × List D)} (h : ckSrc rec S t e k src = true) (ht : ckTg S tg t = true ∨ ∃ S', ckTg S' tg t = true)
    (hv : evSrc T Φ k src en = some (xs, c, en')) : PI X tg e (tSrc G false en xs c en') ∧ (∀ x ds i, c = some (x, ds) → x = .loc i → k = .val ∧ src = [.loc i]) := by
  have tup : ∀ {is : List Nat}, t = .tp is → ∃ es kk p, tg = .Tuple es kk p := by
    intro is e
    subst e
    rcases ht with ht | ⟨S', ht⟩ <;>
    · unfold ckTg at ht
      split at ht
      · rename_i z; cases z
      · exact ⟨_, _, _, rfl⟩
      · cases ht
  unfold ckSrc at h
  split at h
  · rename_i a
    rw [Bool.and_eq_true] at h
    unfold evSrc at hv
    try dsimp only at hv
    cases ha : argOf a (fun en => evE T Φ a en) en with
    | none => rw [ha] at hv; cases hv
    | some pp =>
      obtain ⟨v, en1⟩ := pp
      rw [ha] at hv
      have pa := snd_arg IH hX hS h.2 ha
      cases v with
      | val d fr =>
        simp only at hv
        cases hd : itemsD d with
        | none => rw [hd] at hv; cases hv
        | some ys =>
          rw [hd] at hv
          cases hv
          exact ⟨s_val hX.hG (d_share (r := ⟨d, fr, _⟩) pa) hd, fun _ _ _ z => nomatch z⟩
      | pl x =>
        simp only at hv
        cases hd : (en1.at x).dat with
        | none => rw [hd] at hv; cases hv
        | some d =>
          rw [hd] at hv
          cases d <;> first | (cases hv; done) | skip
          cases hv
          have hloc : ∃ i, x = .loc i ∧ a = .loc i ∧ (en'.at (.loc i)).own = true := by
            unfold argOf at ha
            cases hl : isLoc a with
            | none =>
              rw [hl] at ha
              simp only at ha
              cases hr : evE T Φ a en with
              | none => rw [hr] at ha; cases ha
              | some r => rw [hr] at ha; cases ha
            | some j =>
              have hi : a = .loc j := by
                cases a with
                | loc k => cases hl; rfl
                | _ => cases hl
              subst hi
              rw [hl] at ha
              simp only at ha
              cases hs : en.loc[j]? with
              | none => rw [hs] at ha; cases ha
              | some s =>
                rw [hs] at ha
                cases s <;> first | (cases ha; done) | skip
                · cases ha
                  exact ⟨j, rfl, rfl, by rw [show en.at (.loc j) = _ from getD_of hs]; rfl⟩
                · cases ha
                  exact ⟨j, rfl, rfl, by rw [show en.at (.loc j) = _ from getD_of hs]; rfl⟩
          obtain ⟨i, rfl, rfl, ho⟩ := hloc
          refine ⟨s_loc hX.hG pa hd ho, fun x ds i' z1 z2 => ?_⟩
          cases z1
          cases z2
          exact ⟨rfl, rfl⟩
  · rename_i a
    split at h
    · rename_i x p e1 pos
      rw [Bool.and_eq_true, Bool.and_eq_true, Bool.and_eq_true] at h
      obtain ⟨⟨⟨h1, h2⟩, h3⟩, h4⟩ := h
      obtain rfl := sEq_eq h1
      have hst : isStar e1 = false := by simpa using h3
      unfold evSrc at hv
      try dsimp only at hv
      cases ha : evE T Φ a en with
      | none => rw [ha] at hv; cases hv
      | some r =>
        rw [ha] at hv
        obtain ⟨d, fr, en1⟩ := r
        cases d <;> first | (cases hv; done) | skip
        simp only at hv
        split at hv
        · rename_i hb
          cases hv
          have pa := d_arg (IH.e X S hX hS _ _ h4 en _ ha)
          refine ⟨q_s (s_rng1 (gl_of hS h2) (hX.bl _ (by decide +kernel)) (d_cons (q1 := false) (q2 := true) pa (d_nil hX.hG) (fun z => nomatch z) (star_cons hst)) hst hb), fun _ _ _ z => nomatch z⟩
        · cases hv
    · cases h
  · rename_i a b
    split at h
    · rename_i x p e1 e2 pos
      rw [Bool.and_eq_true, Bool.and_eq_true, Bool.and_eq_true, Bool.and_eq_true, Bool.and_eq_true] at h
      obtain ⟨⟨⟨⟨⟨h1, h2⟩, h3⟩, h3'⟩, h4⟩, h5⟩ := h
      obtain rfl := sEq_eq h1
      have hst : isStar e1 = false := by simpa using h3
      have hst2 : isStar e2 = false := by simpa using h3'
      unfold evSrc at hv
      try dsimp only at hv
      cases ha : evE T Φ a en with
      | none => rw [ha] at hv; cases hv
      | some r =>
        rw [ha] at hv
        obtain ⟨d, fr, en1⟩ := r
        cases d <;> first | (cases hv; done) | skip
        simp only at hv
        cases hb : evE T Φ b en1 with
        | none => rw [hb] at hv; cases hv
        | some r =>
          rw [hb] at hv
          obtain ⟨d2, fr2, en2⟩ := r
          cases d2 <;> first | (cases hv; done) | skip
          simp only at hv
          split at hv
          · rename_i hbd
            cases hv
            have pa := d_arg (IH.e X S hX hS _ _ h4 en _ ha)
            have pb := d_arg (IH.e X S hX hS _ _ h5 _ _ hb)
            refine ⟨q_s (s_rng2 (gl_of hS h2) (hX.bl _ (by decide +kernel)) (d_cons (q1 := false) (q2 := false) pa (d_cons (q1 := false) (q2 := true) pb (d_nil hX.hG) (fun z => nomatch z) (star_cons hst2)) (fun z => nomatch z) (star_cons hst)) hst hst2 hbd.1 hbd.2), fun _ _ _ z => nomatch z⟩
          · cases hv
    · cases h
  · rename_i a
    split at h
    · rename_i is x p e1 pos
      rw [Bool.and_eq_true, Bool.and_eq_true, Bool.and_eq_true] at h
      obtain ⟨⟨⟨h1, h2⟩, h3⟩, h4⟩ := h
      obtain rfl := sEq_eq h1
      have hst : isStar e1 = false := by simpa using h3
      obtain ⟨es, kk, tp, rfl⟩ := tup rfl
      unfold evSrc at hv
      try dsimp only at hv
      cases ha : evE T Φ a en with
      | none => rw [ha] at hv; cases hv
      | some r =>
        rw [ha] at hv
        simp only at hv
        cases hd : itemsD r.d with
        | none => rw [hd] at hv; cases hv
        | some ys =>
          rw [hd] at hv
          cases hv
          exact ⟨q_s (s_enm hX.hG (gl_of hS h2) (hX.bl _ (by decide +kernel)) (d_lcons (q1 := false) (q2 := true) (IH.e X S hX hS _ _ h4 en _ ha) (d_lnil hX.hG) (star_cons hst)) (star_cons hst) hd), fun _ _ _ z => nomatch z⟩
    · cases h
  · rename_i a b
    split at h
    · rename_i is x p e1 e2 pos
      rw [Bool.and_eq_true, Bool.and_eq_true, Bool.and_eq_true, Bool.and_eq_true, Bool.and_eq_true] at h
      obtain ⟨⟨⟨⟨⟨h1, h2⟩, h3⟩, h3'⟩, h4⟩, h5⟩ := h
      obtain rfl := sEq_eq h1
      have hst : isStar e1 = false := by simpa using h3
      have hst2 : isStar e2 = false := by simpa using h3'
      obtain ⟨es, kk, tp, rfl⟩ := tup rfl
      unfold evSrc at hv
      try dsimp only at hv
      cases ha : evE T Φ a en with
      | none => rw [ha] at hv; cases hv
      | some r =>
        rw [ha] at hv
        simp only at hv
        cases hb : evE T Φ b r.en with
        | none => rw [hb] at hv; cases hv
        | some r2 =>
          rw [hb] at hv
          simp only at hv
          cases hd : itemsD r.d with
          | none => rw [hd] at hv; cases hv
          | some ys =>
            cases hd2 : itemsD r2.d with
            | none => rw [hd, hd2] at hv; cases hv
            | some zs =>
              rw [hd, hd2] at hv
              cases hv
              exact ⟨q_s (s_zip hX.hG (gl_of hS h2) (hX.bl _ (by decide +kernel)) (d_lcons (q1 := false) (q2 := false) (IH.e X S hX hS _ _ h4 en _ ha) (d_lcons (q1 := false) (q2 := true) (IH.e X S hX hS _ _ h5 _ _ hb) (d_lnil hX.hG) (star_cons hst2)) (star_cons hst))
                (star_cons hst) (by rw [star_cons hst2]; rfl) hd hd2), fun _ _ _ z => nomatch z⟩
    · cases h
  · rename_i a b
    split at h
    · rename_i is x p e1 e2 y ck cp kp pos
      rw [Bool.and_eq_true, Bool.and_eq_true, Bool.and_eq_true, Bool.and_eq_true, Bool.and_eq_true, Bool.and_eq_true] at h
      obtain ⟨⟨⟨⟨⟨⟨h1, h2⟩, hy⟩, h3⟩, h3'⟩, h4⟩, h5⟩ := h
      obtain rfl := sEq_eq hy
      obtain rfl := sEq_eq h1
      have hst : isStar e1 = false := by simpa using h3
      have hst2 : isStar e2 = false := by simpa using h3'
      obtain ⟨es, kk, tp, rfl⟩ := tup rfl
      unfold evSrc at hv
      try dsimp only at hv
      cases ha : evE T Φ a en with
      | none => rw [ha] at hv; cases hv
      | some r =>
        rw [ha] at hv
        simp only at hv
        cases hb : evE T Φ b r.en with
        | none => rw [hb] at hv; cases hv
        | some r2 =>
          rw [hb] at hv
          simp only at hv
          cases hd : itemsD r.d with
          | none => rw [hd] at hv; cases hv
          | some ys =>
            cases hd2 : itemsD r2.d with
            | none => rw [hd, hd2] at hv; cases hv
            | some zs =>
              rw [hd, hd2] at hv
              simp only at hv
              split at hv
              case isFalse => cases hv
              rename_i hel
              cases hv
              exact ⟨q_s (s_zips (hG := hX.hG) (hel := hel) (gl_of hS h2) (hX.bl _ (by decide +kernel)) (d_lcons (q1 := false) (q2 := false) (IH.e X S hX hS _ _ h4 en _ ha) (d_lcons (q1 := false) (q2 := true) (IH.e X S hX hS _ _ h5 _ _ hb) (d_lnil hX.hG) (star_cons hst2)) (star_cons hst))
                (star_cons hst) (by rw [star_cons hst2]; rfl) hd hd2), fun _ _ _ z => nomatch z⟩
    · cases h
  · cases h
theorem folded_no {iter : Expr} {env : Env} (h : noSet iter = true) : ∀ x, foldedSetIterable iter env x = pure x := by
  intro x
  cases iter <;> first | rfl | cases h
theorem src_noSet {t : Tg} {k : IK} {src : List IE} (h : ckSrc rec S t e k src = true) : noSet e = true := by
  unfold ckSrc at h
  split at h
  · rw [Bool.and_eq_true] at h; exact h.1
  · split at h
    · rfl
    · cases h
  · split at h
    · rfl
    · cases h
  · split at h
    · rfl
    · cases h
  · split at h
    · rfl
    · cases h
  · split at h
    · rfl
    · cases h
  · cases h
end
end Py
/-! What is checked is true: comprehensions; every expression. -/
namespace Py
open PySem PySem.Spec PyProof.Rows L2
open Classical
section
variable {C : CT} {T : Tab} {Φ : Nat → FnSem} {G : Gb} {rec : Sc → Expr → IE → Bool} {X : Cx} {S : Sc} {W W' : Wd} {q : Bool} {en en' en1 en2 en3 : Stt} {r : R} {av x y z : AV} {b : Bool} {e : Expr}
theorem ownN_map (N : List Str) : ∀ (l : List Nat), (ownN N l).map (·.2) = l
  | [] => rfl
  | i :: r => congrArg (i :: ·) (ownN_map N r)
theorem hd_blk (hX : Hd C T Φ G X) (s : Shared) (H : Hp) (scope : Scope) (cenv : Env) (fp : List Addr) : Hd C T Φ G (X.blk s H scope cenv fp) :=
  ⟨hX.hG, hX.calm, hX.nd, hX.hu, hX.ga, hX.bl, hX.fn, hX.cn, hX.sm⟩
theorem vis_of {x : Str} {sc : Scope} (h : visB sc x = true) : Vis sc x := by
  unfold visB at h
  rw [lookS_eq] at h
  split at h
  · exact .inl (by assumption)
  · exact .inr (.inl (by assumption))
  · exact .inr (.inr (by assumption))
  · cases h
theorem sok_blk (hS : SOk X S) {scope : Scope} {vis : List Nat} (hv : ckVis S scope vis = true) (s : Shared) (H : Hp) (cl : List (Str × Addr)) (D : Addr) (fp : List Addr) : SOk (X.blk s H scope (compEnvC scope cl D X.env) fp) (S.sub scope vis) where
  hN := hS.hN
  hsc := by
    show relS scope X.env.scope = relS scope S.sc
    rw [hS.hsc]
  vis := fun i x hi hx => by
    have := List.all_eq_true.mp hv i hi
    rw [show S.N[i]? = some x from hx] at this
    exact vis_of this
  dbg := hS.dbg
  blk := fun x => rfl
/-- the parts of a comprehension -/
structure LcParts (T : Tab) (Φ : Nat → FnSem) (G : Gb) (X : Cx) (e : Expr) (elt : IE) (tg : Tg) (ifs : List IE) (own : List Nat) (en : Stt) (r : R) : Prop where
  ex : ∃ (xe t iter : Expr) (cs : List Expr) (scope : Scope) (pos : Pos) (xs ys : List D) (c : Option (Pl × List D)) (en1 en2 : Stt) (ow : List (Str × Nat)), e = .ListComp xe [⟨t, iter, cs, 0⟩] scope pos ∧ ow.map (·.2) = own ∧ PI X t iter (tSrc G false en xs c en1) ∧ BlkOk X.N X.env.scope scope ow ∧
    (∀ (s : Shared) (H : Hp) (D : Addr) (cl : List (Str × Addr)) (fp : List Addr), PG (X.blk s H scope (compEnvC scope cl D X.env) fp) t (gT X.K tg)) ∧
    (∀ (s : Shared) (H : Hp) (D : Addr) (cl : List (Str × Addr)) (fp : List Addr), PTs (X.blk s H scope (compEnvC scope cl D X.env) fp) cs (tAnyT G (fun en => evIfs T Φ ifs en))) ∧
    (∀ (s : Shared) (H : Hp) (D : Addr) (cl : List (Str × Addr)) (fp : List Addr), PE (X.blk s H scope (compEnvC scope cl D X.env) fp) xe (tAnyE G (fun en => evE T Φ elt en))) ∧ (∀ x, foldedSetIterable iter X.env x = pure x) ∧
    (∀ j ∈ tg.slots, j ∈ ow.map (·.2)) ∧ (∀ x ds i, c = some (x, ds) → x = .loc i → i ∉ ow.map (·.2)) ∧
    lcLp (fun x en => asgTg { en with loc := wipeE en.loc (ow.map (·.2)) } x tg) (fun en => evIfs T Φ ifs en) (fun en => evE T Φ elt en) c xs { en1 with loc := wipeE en1.loc (ow.map (·.2)) } = some (ys, en2) ∧
    r = ⟨.lst ys, true, { en2 with loc := backE en1.loc en2.loc (ow.map (·.2)) }⟩
theorem lc_parts (IH : Snd C T Φ G rec) (hX : Hd C T Φ G X) (hS : SOk X S) {elt : IE} {tg : Tg} {k : IK} {src ifs : List IE} {own vis : List Nat} (h : ckLc rec S e elt tg k src ifs own vis = true) (hv : evE T Φ (.lc elt tg k src ifs own vis) en = some r) :
    LcParts T Φ G X e elt tg ifs own en r := by
  unfold ckLc at h
  split at h
  · rename_i xe t iter cs scope pos
    rw [Bool.and_eq_true, Bool.and_eq_true, Bool.and_eq_true, Bool.and_eq_true, Bool.and_eq_true, Bool.and_eq_true, Bool.and_eq_true] at h
    obtain ⟨⟨⟨⟨⟨⟨⟨h1, h2⟩, h3⟩, h4⟩, h5⟩, h6⟩, h7⟩, h8⟩ := h
    unfold evE at hv
    cases hs : evSrc T Φ k src en with
    | none => rw [hs] at hv; cases hv
    | some pp =>
      obtain ⟨xs, c, en1⟩ := pp
      rw [hs] at hv
      simp only at hv
      split at hv
      · rename_i ys en2 hl
        cases hv
        obtain ⟨pi, hc⟩ := src_of IH hX hS h1 (.inr ⟨_, h2⟩) hs
        have hm := ownN_map S.N own
        refine ⟨xe, t, iter, cs, scope, pos, xs, ys, c, en1, en2, ownN S.N own, rfl, hm, pi, ?_, fun s H D cl fp => ?_, fun s H D cl fp => ?_, fun s H D cl fp => ?_, folded_no (src_noSet h1), fun j hj => ?_, fun x ds i z1 z2 => ?_, by rw [hm]; exact hl, by rw [hm]⟩
        · have := blkOk_by h6
          rw [hS.hN, hS.hsc]; exact this
        · exact tg_of (X := X.blk s H scope (compEnvC scope cl D X.env) fp) (hd_blk hX _ _ _ _ _) (sok_blk hS h5 s H cl D fp) h2
        · have hX' := hd_blk hX s H scope (compEnvC scope cl D X.env) fp
          have hS' := sok_blk hS h5 s H cl D fp
          split at h3
          · refine ⟨fun pins s' σ H' Q I w => ?_⟩
            obtain ⟨en0, b0, en0', hf, w⟩ := w
            unfold evIfs at hf
            cases hf
            obtain ⟨W, e1, ok, rp, kk⟩ := w
            subst e1
            have := kk W (Step.refl W) ok rp QS.f (by have := len_inv I; rw [hX.hG]; exact this)
            exact pts_nil.run pins s' σ _ Q I this
          · rename_i c0 i0
            refine ⟨fun pins s' σ H' Q I w => ?_⟩
            obtain ⟨en0, b0, en0', hf, w⟩ := w
            have hf : (match evE T Φ i0 en0 with | some ⟨.bl b, _, en'⟩ => some (b, en') | _ => none) = some (b0, en0') := by unfold evIfs at hf; exact hf
            cases hr : evE T Φ i0 en0 with
            | none => rw [hr] at hf; cases hf
            | some r0 =>
              rw [hr] at hf
              obtain ⟨d0, fr0, en0''⟩ := r0
              cases d0 <;> first | (cases hf; done) | skip
              cases hf
              exact (pts_one (IH.t _ _ hX' hS' _ _ h3 _ _ _ _ hr)).run pins s' σ H' Q I w
          · cases h3
        · refine pe_ex fun en0 => pe_ex fun r0 => pe_and_p fun hf => ?_
          exact IH.e _ _ (hd_blk hX s H scope (compEnvC scope cl D X.env) fp) (sok_blk hS h5 s H cl D fp) _ _ h4 _ _ hf
        · rw [hm]
          have := List.all_eq_true.mp h7 j hj
          simpa using this
        · rw [hm]
          obtain ⟨e1, e2⟩ := hc x ds i z1 z2
          subst e1 e2
          unfold srcOk at h8
          simpa using h8
      · cases hv
  · cases h
theorem arm_lc (IH : Snd C T Φ G rec) (hX : Hd C T Φ G X) (hS : SOk X S) {elt : IE} {tg : Tg} {k : IK} {src ifs : List IE} {own vis : List Nat} (h : ckE rec C S e (.lc elt tg k src ifs own vis) = true) (hv : evE T Φ (.lc elt tg k src ifs own vis) en = some r) : PE X e (tD G false en r) := by
  unfold ckE at h
  dsimp only at h
  obtain ⟨xe, t, iter, cs, scope, pos, xs, ys, c, en1, en2, ow, rfl, hm, pi, bo, hg, ht, he, hf, hsl, hown, hl, rfl⟩ := (lc_parts IH hX hS h hv).ex
  exact d_lc hX.hG hX.calm hX.nd pi bo hg ht he hf hsl hown hl
theorem arm_e (IH : Snd C T Φ G rec) (hX : Hd C T Φ G X) (hS : SOk X S) {i : IE} (h : ckE rec C S e i = true) (hv : evE T Φ i en = some r) : PE X e (tD G false en r) := by
  cases i with
  | loc j => exact arm_loc hX hS h hv
  | cst d => exact arm_cst hX hS h hv
  | fld o f => unfold ckE at h; cases h
  | nop => unfold ckE at h; cases h
  | tup es => exact arm_tup IH hX hS h hv
  | lst es => exact arm_lst IH hX hS h hv
  | dic ks vs => exact arm_dic IH hX hS h hv
  | bin o a b => exact arm_bin IH hX hS h hv
  | neg a => exact arm_neg IH hX hS h hv
  | not a => exact arm_not IH hX hS h hv
  | cmp o a b => exact arm_cmp IH hX hS h hv
  | chn o p a b c => exact arm_chn IH hX hS h hv
  | and a b => exact arm_and IH hX hS h hv
  | or a b => exact arm_or IH hX hS h hv
  | ite c a b => exact arm_ite IH hX hS h hv
  | call f es => exact arm_call IH hX hS h hv
  | ocall o m es => unfold ckE at h; cases h
  | make c es => unfold ckE at h; cases h
  | prm p es => exact arm_prm IH hX hS h hv
  | isi a ts => exact arm_isi IH hX hS h hv
  | idx a b => exact arm_idx IH hX hS h hv
  | slc a lo hi => exact arm_slc IH hX hS h hv
  | rev a => exact arm_rev IH hX hS h hv
  | mth m o es => exact arm_mth IH hX hS h hv
  | «mut» m o es => exact arm_mut IH hX hS h hv
  | lc elt tg k src ifs own vis => exact arm_lc IH hX hS h hv
  | lc2 elt tg k src tg2 k2 src2 own own2 vis => unfold ckE at h; cases h
theorem arm_iteT (IH : Snd C T Φ G rec) (hX : Hd C T Φ G X) (hS : SOk X S) {c a b : IE} {kb fr : Bool} (h : ckE rec C S e (.ite c a b) = true) (hv : evE T Φ (.ite c a b) en = some ⟨.bl kb, fr, en'⟩) : PT X e (tDT G false en kb en') := by
  unfold ckE at h
  dsimp only at h
  split at h
  · rename_i x y z pos
    rw [Bool.and_eq_true, Bool.and_eq_true] at h
    obtain ⟨⟨h1, h2⟩, h3⟩ := h
    unfold evE at hv
    cases ha : evE T Φ c en with
    | none => rw [ha] at hv; cases hv
    | some r' =>
      rw [ha] at hv
      obtain ⟨d, fr', en1⟩ := r'
      cases d <;> first | (cases hv; done) | skip
      rename_i k
      have pc := IH.t X S hX hS _ _ h1 en _ _ _ ha
      cases k with
      | true =>
        refine pt_imp (pt_ifE pc (IH.t X S hX hS _ _ h2 en1 _ _ _ hv) pt_nev) fun σ H Q _ ⟨W, e1, ok, rp, k⟩ => ?_
        subst e1
        exact ⟨W, rfl, ok, rp, fun W1 st1 ok1 rp1 qs1 l1 => iteT ⟨W1, rfl, ok1, rp1, fun W2 st2 ok2 rp2 qs2 l2 => fun _ => k W2 (st1.trans ok1 st2) ok2 rp2 QS.f l2⟩⟩
      | false =>
        refine pt_imp (pt_ifE pc pt_nev (IH.t X S hX hS _ _ h3 en1 _ _ _ hv)) fun σ H Q _ ⟨W, e1, ok, rp, k⟩ => ?_
        subst e1
        exact ⟨W, rfl, ok, rp, fun W1 st1 ok1 rp1 qs1 l1 => iteF ⟨W1, rfl, ok1, rp1, fun W2 st2 ok2 rp2 qs2 l2 => fun _ => k W2 (st1.trans ok1 st2) ok2 rp2 QS.f l2⟩⟩
  · cases h
def plainT : Expr → Bool
  | .UnaryOp .Not .. => false
  | .BoolOp .. => false
  | .IfExp .. => false
  | .Compare .. => false
  | _ => true
theorem plainT_of {env : Env} (h : plainT e = true) : ∀ whole, isTrue e env whole = (do let v ← whole; standAt e.pos; holding [v] (truthy v)) := by
  intro whole
  cases e with
  | UnaryOp op a p => cases op <;> first | rfl | cases h
  | BoolOp _ _ _ => cases h
  | IfExp _ _ _ _ => cases h
  | Compare _ _ _ _ => cases h
  | _ => rfl
theorem arm_t (IH : Snd C T Φ G rec) (hX : Hd C T Φ G X) (hS : SOk X S) {i : IE} {kb fr : Bool} (h : ckE rec C S e i = true) (hv : evE T Φ i en = some ⟨.bl kb, fr, en'⟩) : PT X e (tDT G false en kb en') := by
  by_cases hp : plainT e = true
  · exact d_test (arm_e IH hX hS h hv) (plainT_of hp)
  · cases i with
    | not a => exact arm_notT IH hX hS h hv
    | cmp o a b => exact arm_cmpT IH hX hS h hv
    | chn o p a b c => exact arm_chnT IH hX hS h hv
    | and a b => exact arm_andT IH hX hS h hv
    | or a b => exact arm_orT IH hX hS h hv
    | ite c a b => exact arm_iteT IH hX hS h hv
    | prm p es =>
      exfalso
      apply hp
      unfold ckE at h
      dsimp only at h
      split at h <;> first | rfl | cases h
    | dic ks vs =>
      exfalso
      unfold ckE at h
      dsimp only at h
      split at h
      · unfold evE at hv
        cases hv
      · cases h
    | _ =>
      exfalso
      apply hp
      unfold ckE at h
      try dsimp only at h
      cases e with
      | UnaryOp op a p => cases op <;> first | rfl | (split at h <;> first | rfl | cases h) | cases h
      | BoolOp _ _ _ => first | cases h | (split at h <;> cases h) | (unfold ckLc at h; cases h)
      | IfExp _ _ _ _ => first | cases h | (split at h <;> cases h) | (unfold ckLc at h; cases h)
      | Compare _ _ _ _ => first | cases h | (split at h <;> cases h) | (unfold ckLc at h; cases h)
      | _ => rfl
theorem snd_ck : ∀ n, Snd C T Φ G (ck C n)
  | 0 => ⟨fun _ _ _ h => (nomatch h), fun _ _ _ _ _ _ h => (nomatch h), fun _ _ _ _ _ _ h => (nomatch h)⟩
  | n + 1 => by
    have IH := snd_ck n
    refine ⟨fun S e i h => ?_, fun X S hX hS e i h en r hv => arm_e IH hX hS h hv, fun X S hX hS e i h en b fr en' hv => arm_t IH hX hS h hv⟩
    have h : ckE (ck C n) C S e (.loc i) = true := h
    unfold ckE at h
    dsimp only at h
    split at h
    · exact ⟨_, _, rfl, h⟩
    · cases h
end
end Py
/-! x, y = a, b where a tuple is built. -/
namespace Py
open PySem PySem.Spec PyProof.Rows L2
open Classical
section
variable {G : Gb} {W W0 W1 W2 W' : Wd} {σ : L2.St} {en en' en1 en2 en3 : Stt} {d e r : D} {v u : V} {q q1 q2 : Bool} {X : Cx} (hG : G.K = X.K) {fr : Bool}
theorem pairedLen {α β : Type} {R : α → β → Prop} : ∀ {xs : List α} {ys : List β}, Paired R xs ys → xs.length = ys.length
  | _, _, .nil => rfl
  | _, _, .cons _ t => congrArg (· + 1) (pairedLen t)
theorem gNames_of : ∀ {is : List Nat} {vs : List V} {σ : L2.St} {H : Hp} {Q : L2.St → Hp → Prop}, vs.length = is.length → Q (setL σ is vs) H → gNames is vs σ H Q
  | [], [], _, _, _, _, h => ⟨rfl, h⟩
  | i :: is, v :: vs, σ, H, Q, hl, h => ⟨v, vs, rfl, gNames_of (is := is) (by simpa using hl) h⟩
  | [], _ :: _, _, _, _, hl, _ => by simp at hl
  | _ :: _, [], _, _, _, hl, _ => by simp at hl
theorem putF_len : ∀ {is : List Nat} {ds : List (D × Bool)} {en en' : Stt}, putF en is ds = some en' → ds.length = is.length
  | [], [], _, _, _ => rfl
  | i :: is, p :: ds, en, en', h => by
    unfold putF at h
    cases hp : putO en i p.2 p.1 with
    | none => rw [hp] at h; cases h
    | some en1 => rw [hp] at h; exact congrArg (· + 1) (putF_len h)
  | [], _ :: _, _, _, h => by simp [putF] at h
  | _ :: _, [], _, _, h => by simp [putF] at h
include hG in
/-- x, y = a, b: the tuple is built and read again; what is new stays its own -/
theorem s_parC {is : List Nat} {es ts : List Expr} {k k2 : Nat} {p p2 pos : Pos} {ds : List (D × Bool)} (hg : PG X (.Tuple ts k p) (gT G.K (.tp is))) (ha : PA X es (tPs G en ds en1)) (hs : swapsWithSole [.Tuple ts k p] (.Tuple es k2 p2) pos.line X.env = pure false)
    (hw : swappedStores [.Tuple ts k p] (.Tuple es k2 p2) X.env = pure none) (h1 : (assignEach [.Tuple ts k p] X.env).map (·.2) = [assign (.Tuple ts k p) X.env]) (hl : ds.length ≤ lim) (hp : putF en1 is ds = some en') :
    PS X (.Assign [.Tuple ts k p] (.Tuple es k2 p2) pos) (tS G is en .nx en') :=
  ps_imp (ps_asg (pe_tup ha) hg hs hw h1) fun D σ H _ ⟨W, e1, ok, rp, kk⟩ => by
    subst e1
    refine ⟨W, rfl, ok, rp, fun vs W1 st1 ok1 rp1 pd fd l1 => ?_⟩
    have hvs : vs.length = ds.length := (pairedLen pd).symm
    refine ⟨by rw [hvs, ← lim_line]; exact hl, fun a hn => ?_⟩
    have ps : PStep W1 { W1 with H := upd W1.H a (.tup vs) } := push_step hn
    have ok2 := push_ok (o := .tup vs) ok1 hn
    have pd2 : Paired (fun p v => Val G W { W1 with H := upd W1.H a (.tup vs) } p.2 p.1 v) ds vs := paired_map (fun p v h => h.step ps.S) pd
    obtain ⟨W2, hh, ok3, st3, rp3, oa, hl3⟩ := putF_ok (is := is) ok2 ok (st1.trans ok1 ps.S) (rp1.pstep ps) pd2 fd hp
    refine .inl ⟨a, vs, rfl, .inl (.inl upd_same), hl3, gNames_of hl3 fun hl2 => ?_⟩
    have hh : W2.H = upd W1.H a (.tup vs) := hh
    have := kk _ W2 st3 ok3 rp3 oa (by rw [hh, hG]; exact hl2)
    show D.nx _ _
    rw [← hh]
    exact this
end
end Py
/-! Statements checked. -/
namespace Py
open PySem PySem.Spec PyProof.Rows L2
open Classical
def isNameN (x : Str) : NameKind → Bool
  | .local => true
  | .cell => true
  | _ => false
/-- a comprehension stored in a name is exchanged with what stood there -/
def swapB (S : Sc) (ex : Expr) (x : Str) (p : Pos) : Bool := match ex with
  | .ListComp _ _ scope _ => (match lookS S.sc.names x with | some .local => true | _ => false) && (p.line == ex.pos.line) && !(scope.names.any fun (n, k) => n == x && (k == .local || k == .cell))
  | _ => false
def okLc : Expr → Bool
  | .SetComp .. => false
  | .DictComp .. => false
  | _ => true
def namesOf : List Expr → Option (List (Str × Pos))
  | [] => some []
  | .Name x p :: r => (namesOf r).map ((x, p) :: ·)
  | _ :: _ => none
def locB (S : Sc) (x : Str) : Bool := match lookS S.sc.names x with
  | some .local => true
  | _ => false
def ckSs (f : Stmt → IS → Bool) : List Stmt → List IS → Bool
  | [], [] => true
  | s :: ss, i :: is => f s i && ckSs f ss is
  | _, _ => false
def fold8 (vs : List Expr) : Bool := vs.all (foldedForSure 8) || vs.all (constantsAlone 8)
def cellN (S : Sc) : Expr → Bool
  | .Name x _ => match lookS S.sc.names x with
    | some .cell => true
    | _ => false
  | _ => false
/-- x, y = a, b where a tuple is built -/
def ckParC (rec : Sc → Expr → IE → Bool) (S : Sc) (st : Stmt) (is : List Nat) (es : List IE) : Bool := match st with
  | .Assign [.Tuple ts k p] (.Tuple xs _ _) _ => ckTg S (.Tuple ts k p) (.tp is) && ts.any (cellN S) && noStar xs && ckL (rec S) xs es && decide (is.length ≤ 1000)
  | _ => false
def ckParL (rec : Sc → Expr → IE → Bool) (S : Sc) (st : Stmt) (is : List Nat) (es : List IE) : Bool := match st, is, es with
  | .Assign [.Tuple [.Name x px, .Name y py] kt pt] (.Tuple [a, b] k2 pt2) _, [i, j], [ia, ib] => ckT1 S x i && ckT1 S y j && locB S x && locB S y && decide (i ≠ j) && !sEq x y && (px.line == py.line) && !isStar a && !isStar b && !fold8 [a, b] && rec S a ia && rec S b ib
  | .Assign [.Tuple [.Name x px, .Name y py, .Name z pz] kt pt] (.Tuple [a, b, c] k2 pt2) _, [i, j, l], [ia, ib, ic] => ckT1 S x i && ckT1 S y j && ckT1 S z l && locB S x && locB S y && locB S z && decide (i ≠ j) && decide (i ≠ l) && decide (j ≠ l) && !sEq x y && !sEq x z && !sEq y z &&
        (px.line == py.line) && (px.line == pz.line) && !isStar a && !isStar b && !isStar c && !fold8 [a, b, c] && rec S a ia && rec S b ib && rec S c ic
  | _, _, _ => false
def ckS (rec : Sc → Expr → IE → Bool) (f : Stmt → IS → Bool) (S : Sc) (st : Stmt) : IS → Bool
  | .asg i e => match st with
    | .Assign [.Name x p] ex _ => ckT1 S x i && okLc ex && rec S ex e && (!swapB S ex x p || (match ex, e with
      | .ListComp xe [⟨t, it, cs, 0⟩] sc ps, .lc elt tg k src ifs own vis => ckLc rec S (.ListComp xe [⟨t, it, cs, 0⟩] sc ps) elt tg k src ifs own vis
      | _, _ => false))
    | _ => false
  | .asgT is e => match st with
    | .Assign [.Tuple ts k p] ex _ => ckTg S (.Tuple ts k p) (.tp is) && noLc ex && !isTupE ex && rec S ex e
    | _ => false
  | .par is es => ckParC rec S st is es || ckParL rec S st is es
  | .seti o k e => match st with
    | .Assign [.Subscript x y p] ex _ => noSl y && rec S ex e && rec S x o && rec S y k
    | _ => false
  | .augi o k op e => match st with
    | .AugAssign (.Subscript x y p) op' ex _ => decide (op' = op) && noSl y && rec S ex e && rec S x o && rec S y k
    | _ => false
  | .aug i op e => match st with
    | .AugAssign (.Name x p) op' ex _ => decide (op' = op) && ckT1 S x i && rec S ex e
    | _ => false
  | .exp e => match st with
    | .Expr ex _ => noLc ex && rec S ex e
    | _ => false
  | .ite c a b => match st with
    | .If x p q _ => rec S x c && ckSs f p a && ckSs f q b
    | _ => false
  | .for tg k src body => match st with
    | .For t it bd [] _ => ckTg S t tg && ckSrc rec S tg it k src && ckSs f bd body && (match k, src with
      | .val, [.loc i] => !(tg.slots ++ wrSs body).contains i
      | _, _ => true)
    | _ => false
  | .whl c body => match st with
    | .While x bd [] _ => rec S x c && ckSs f bd body
    | _ => false
  | .ret e => match st with
    | .Return (some x) _ => rec S x e
    | _ => false
  | .retN => match st with
    | .Return none _ => true
    | _ => false
  | .brk => match st with
    | .Break _ => true
    | _ => false
  | .cnt => match st with
    | .Continue _ => true
    | _ => false
  | .pas => match st with
    | .Pass _ => true
    | _ => false
  | _ => false
def ckSt (C : CT) (m : Nat) : Nat → Sc → Stmt → IS → Bool
  | 0, _, _, _ => false
  | n + 1, S, st, i => ckS (ck C m) (ckSt C m n S) S st i
structure SOkF (X : Cx) (S : Sc) : Prop where
  ok : SOk X S
  kind : S.sc.kind = .function
  own : PassesOwn (model X.prog X.w) X.A X.env X.xe
section
variable {C : CT} {T : Tab} {Φ : Nat → FnSem} {F : Nat} {G : Gb} {rec : Sc → Expr → IE → Bool} {X : Cx} {S : Sc} {W W' : Wd} {q : Bool} {en en' en1 en2 en3 : Stt} {r : R} {b : Bool} {e : Expr} {st : Stmt} {fl : Fl} {f : Stmt → IS → Bool}
theorem swap_of (hS : SOkF X S) {ex : Expr} {x : Str} {p : Pos} {l : Nat} (h : okLc ex = true) : swapsWith ex (some (.Name x p)) l X.env = pure (swapB S ex x p) := by
  have hk : X.env.scope.kind = .function := by rw [hS.ok.hsc]; exact hS.kind
  have hb : X.env.blockKind = .function := by unfold Env.blockKind; rw [hk]; rfl
  have ky : X.env.kindOf x = lookS S.sc.names x := by
    rw [lookS_eq, ← hS.ok.hsc]; rfl
  unfold swapsWith swapB
  cases ex <;> first | rfl | (cases h; done) | skip
  simp only [hb, ky]
  cases lookS S.sc.names x with
  | none => rfl
  | some k => cases k <;> rfl
theorem swap_no {ex : Expr} {t : Option Expr} {l : Nat} {env : Env} (h : noLc ex = true) : swapsWith ex t l env = pure false := by
  cases ex <;> first | rfl | cases h
theorem swap_sub {ex o i : Expr} {p : Pos} {l : Nat} {env : Env} : swapsWithSole [.Subscript o i p] ex l env = pure false := by
  show swapsWith ex (some (.Subscript o i p)) l env = pure false
  cases ex <;> rfl
theorem stores_sub {ex o i : Expr} {p : Pos} {env : Env} : swappedStores [.Subscript o i p] ex env = pure none := by
  unfold swappedStores
  cases ex <;> rfl
theorem any_short {S : Sc} {f : Expr → Option Str} (hf : ∀ e, cellN S e = true → f e = none) : ∀ {ts : List Expr}, ts.any (cellN S) = true → (ts.filterMap f).length ≠ ts.length
  | t :: ts, h => by
    rw [List.any_cons] at h
    rw [List.filterMap_cons]
    have hle : (ts.filterMap f).length ≤ ts.length := List.length_filterMap_le _ _
    cases q : f t with
    | none => simp only [List.length_cons]; omega
    | some y =>
      have h2 : cellN S t = false := by
        cases z : cellN S t with
        | false => rfl
        | true => rw [hf t z] at q; cases q
      rw [h2, Bool.false_or] at h
      have := any_short hf h
      simp only [List.length_cons]; omega
theorem stores_cell (hS : SOkF X S) {ts xs : List Expr} {k k2 : Nat} {p p2 : Pos} (h : ts.any (cellN S) = true) : swappedStores [.Tuple ts k p] (.Tuple xs k2 p2) X.env = pure none := by
  unfold swappedStores
  simp only
  split
  · rfl
  · split
    · rfl
    · rw [if_pos]
      · rw [Bool.or_eq_true]
        left
        rw [bne_iff_ne]
        refine any_short (S := S) (fun e he => ?_) h
        cases e <;> first | (cases he; done) | skip
        rename_i x px
        have : X.env.kindOf x = some .cell := by
          show X.env.scope.names.lookup x = _
          unfold cellN at he
          dsimp only at he
          rw [lookS_eq] at he
          rw [hS.ok.hsc]
          split at he
          · assumption
          · cases he
        simp [this]
theorem stores_tup {ts : List Expr} {k : Nat} {p : Pos} {ex : Expr} {env : Env} (h : isTupE ex = false) : swappedStores [.Tuple ts k p] ex env = pure none := by
  unfold swappedStores
  cases ex <;> first | rfl | cases h
theorem sEq_ne {x y : Str} (h : (!sEq x y) = true) : x ≠ y := fun e => by
  subst e
  have : sEq x x = true := by unfold sEq; exact beq_self_eq_true _
  rw [this] at h; cases h
theorem loc_of (hS : SOkF X S) {x : Str} (h : locB S x = true) : X.env.scope.names.lookup x = some .local := by
  unfold locB at h
  rw [lookS_eq] at h
  rw [hS.ok.hsc]
  split at h
  · assumption
  · cases h
theorem stores_two (hS : SOkF X S) {x y : Str} {px py pt pt2 : Pos} {kt k2 : Nat} {a b : Expr} (hx : locB S x = true) (hy : locB S y = true) (hl : (px.line == py.line) = true) (hn : (!sEq x y) = true) (sa : isStar a = false) (sb : isStar b = false) (hf : fold8 [a, b] = false) :
    swappedStores [.Tuple [.Name x px, .Name y py] kt pt] (.Tuple [a, b] k2 pt2) X.env = pure (some [x, y]) := by
  have hk : X.env.scope.kind = .function := by rw [hS.ok.hsc]; exact hS.kind
  have hb : X.env.blockKind = .function := by unfold Env.blockKind; rw [hk]; rfl
  have kx : X.env.kindOf x = some .local := loc_of hS hx
  have ky : X.env.kindOf y = some .local := loc_of hS hy
  have hne := sEq_ne hn
  have e1 : (y == x) = false := beq_eq_false_iff_ne.mpr (Ne.symm hne)
  have hl' : (py.line == px.line) = true := by rw [beq_iff_eq] at hl ⊢; exact hl.symm
  have dd : ([x, y] : List Str).eraseDups.length = 2 := by
    simp [List.eraseDups, List.eraseDupsBy, List.eraseDupsBy.loop, e1, hne, Ne.symm hne]
  unfold fold8 at hf
  rw [Bool.or_eq_false_iff] at hf
  unfold swappedStores
  simp only [List.length_cons, List.length_nil, hb, List.head?_cons, Option.map_some, Option.getD_some, Expr.pos, List.filterMap_cons, List.filterMap_nil, kx, ky, hl', hf.1, hf.2, dd, beq_self_eq_true, Bool.and_self, if_true, Bool.or_self, Bool.not_true, Bool.false_or, bne_self_eq_false, Bool.or_false, if_false, Bool.false_eq_true]
  simp [dd]
  intro h
  rcases h with h | h
  · exfalso; cases a <;> first | (cases h; done) | cases sa
  · exfalso; cases b <;> first | (cases h; done) | cases sb
theorem stores_three (hS : SOkF X S) {x y z : Str} {px py pz pt pt2 : Pos} {kt k2 : Nat} {a b c : Expr} (hx : locB S x = true) (hy : locB S y = true) (hz : locB S z = true) (hl : (px.line == py.line) = true) (hl2 : (px.line == pz.line) = true)
    (hn : (!sEq x y) = true) (hn2 : (!sEq x z) = true) (hn3 : (!sEq y z) = true) (sa : isStar a = false) (sb : isStar b = false) (sc : isStar c = false) (hf : fold8 [a, b, c] = false) :
    swappedStores [.Tuple [.Name x px, .Name y py, .Name z pz] kt pt] (.Tuple [a, b, c] k2 pt2) X.env = pure (some [x, y, z]) := by
  have hk : X.env.scope.kind = .function := by rw [hS.ok.hsc]; exact hS.kind
  have hb : X.env.blockKind = .function := by unfold Env.blockKind; rw [hk]; rfl
  have kx : X.env.kindOf x = some .local := loc_of hS hx
  have ky : X.env.kindOf y = some .local := loc_of hS hy
  have kz : X.env.kindOf z = some .local := loc_of hS hz
  have hne := sEq_ne hn
  have hne2 := sEq_ne hn2
  have hne3 := sEq_ne hn3
  have e1 : (y == x) = false := beq_eq_false_iff_ne.mpr (Ne.symm hne)
  have e2 : (z == x) = false := beq_eq_false_iff_ne.mpr (Ne.symm hne2)
  have e3 : (z == y) = false := beq_eq_false_iff_ne.mpr (Ne.symm hne3)
  have hl' : (py.line == px.line) = true := by rw [beq_iff_eq] at hl ⊢; exact hl.symm
  have hl2' : (pz.line == px.line) = true := by rw [beq_iff_eq] at hl2 ⊢; exact hl2.symm
  have dd : ([x, y, z] : List Str).eraseDups.length = 3 := by
    simp [List.eraseDups, List.eraseDupsBy, List.eraseDupsBy.loop, e1, e2, e3, hne, Ne.symm hne, hne2, Ne.symm hne2, hne3, Ne.symm hne3]
  unfold fold8 at hf
  rw [Bool.or_eq_false_iff] at hf
  unfold swappedStores
  simp only [List.length_cons, List.length_nil, hb, List.head?_cons, Option.map_some, Option.getD_some, Expr.pos, List.filterMap_cons, List.filterMap_nil, kx, ky, kz, hl', hl2', hf.1, hf.2, dd, beq_self_eq_true, Bool.and_self, if_true, Bool.or_self, Bool.not_true, Bool.false_or, bne_self_eq_false, Bool.or_false, if_false, Bool.false_eq_true]
  simp [dd]
  intro h
  rcases h with h | h | h
  · exfalso; cases a <;> first | (cases h; done) | cases sa
  · exfalso; cases b <;> first | (cases h; done) | cases sb
  · exfalso; cases c <;> first | (cases h; done) | cases sc
end
end Py
/-! Every statement that is checked is true. -/
namespace Py
open PySem PySem.Spec PyProof.Rows L2
open Classical
/-- what is known of the checker of statements below -/
def SndS (T : Tab) (Φ : Nat → FnSem) (F : Nat) (G : Gb) (X : Cx) (f : Stmt → IS → Bool) : Prop := ∀ st i, f st i = true → ∀ en fl en', evS T Φ F i en = some (fl, en') → PS X st (tS G (wrS i) en fl en')
section
variable {C : CT} {T : Tab} {Φ : Nat → FnSem} {F : Nat} {G : Gb} {rec : Sc → Expr → IE → Bool} {X : Cx} {S : Sc} {W W' : Wd} {q : Bool} {en en' en1 en2 en3 : Stt} {r : R} {b : Bool} {e : Expr} {st : Stmt} {fl : Fl} {f : Stmt → IS → Bool}
theorem snd_ss (hX : Hd C T Φ G X) (IH : SndS T Φ F G X f) : ∀ {sts : List Stmt} {is : List IS} {en en' : Stt} {fl : Fl}, ckSs f sts is = true → evSs T Φ F is en = some (fl, en') → PSs X sts (tS G (wrSs is) en fl en')
  | [], [], en, en', fl, _, hv => by
    unfold evSs at hv
    cases hv
    exact ss_nil hX.hG
  | st :: sts, i :: is, en, en', fl, h, hv => by
    unfold ckSs at h
    rw [Bool.and_eq_true] at h
    unfold evSs at hv
    cases hs : evS T Φ F i en with
    | none => rw [hs] at hv; cases hv
    | some p =>
      obtain ⟨fl1, en1⟩ := p
      rw [hs] at hv
      have p1 := IH st i h.1 en fl1 en1 hs
      cases fl1 with
      | nx => exact ss_nx p1 (snd_ss hX IH h.2 hv)
      | bk => cases hv; exact ss_end (fun z => nomatch z) p1
      | ct => cases hv; exact ss_end (fun z => nomatch z) p1
      | rt d fr => cases hv; exact ss_end (fun z => nomatch z) p1
  | [], _ :: _, _, _, _, h, _ => by cases h
  | _ :: _, [], _, _, _, h, _ => by cases h
theorem any_ss (hX : Hd C T Φ G X) (IH : SndS T Φ F G X f) {sts : List Stmt} {is : List IS} (h : ckSs f sts is = true) : PSs X sts (tAnyS G (wrSs is) (fun en => evSs T Φ F is en)) :=
  pss_ex fun en => pss_ex fun fl => pss_ex fun en' => pss_and_p fun hv => snd_ss hX IH h hv
theorem evB_inv {c : IE} {k : Bool} (h : evB T Φ c en = some (k, en')) : ∃ fr, evE T Φ c en = some ⟨.bl k, fr, en'⟩ := by
  unfold evB at h
  cases hr : evE T Φ c en with
  | none => rw [hr] at h; cases h
  | some r =>
    rw [hr] at h
    obtain ⟨d, fr, en1⟩ := r
    cases d <;> first | (cases h; done) | skip
    cases h
    exact ⟨fr, rfl⟩
theorem any_b (IHe : Snd C T Φ G rec) (hX : Hd C T Φ G X) (hS : SOk X S) {c : IE} (h : rec S e c = true) : PT X e (tAnyT G (fun en => evB T Φ c en)) :=
  pt_ex fun en => pt_ex fun k => pt_ex fun en' => pt_and_p fun hv => by
    obtain ⟨fr, hv⟩ := evB_inv hv
    exact IHe.t X S hX hS _ _ h _ _ _ _ hv
theorem snd_p (IHe : Snd C T Φ G rec) (hX : Hd C T Φ G X) (hS : SOk X S) : ∀ {es : List Expr} {is : List IE} {en en' : Stt} {ds : List (D × Bool)}, ckL (rec S) es is = true → noStar es = true → evP T Φ is en = some (ds, en') → PA X es (tPs G en ds en')
  | [], [], en, en', ds, _, _, hv => by
    unfold evP at hv
    cases hv
    exact p_nil hX.hG
  | e :: es, i :: is, en, en', ds, h, hst, hv => by
    unfold ckL at h
    rw [Bool.and_eq_true] at h
    unfold evP at hv
    cases ha : evE T Φ i en with
    | none => rw [ha] at hv; cases hv
    | some r =>
      rw [ha] at hv
      simp only at hv
      cases hr : evP T Φ is r.en with
      | none => rw [hr] at hv; cases hv
      | some p =>
        obtain ⟨as, en2⟩ := p
        rw [hr] at hv
        cases hv
        exact p_cons (IHe.e X S hX hS e i h.1 en r ha) (snd_p IHe hX hS h.2 (star_t hst) hr) (star_c hst)
  | [], _ :: _, _, _, _, h, _, _ => by cases h
  | _ :: _, [], _, _, _, h, _, _ => by cases h
theorem star_two {a b : Expr} (sa : isStar a = false) (sb : isStar b = false) : noStar [a, b] = true := by
  unfold noStar; rw [List.all_cons, List.all_cons, sa, sb]; rfl
theorem star_three {a b c : Expr} (sa : isStar a = false) (sb : isStar b = false) (sc : isStar c = false) : noStar [a, b, c] = true := by
  unfold noStar; rw [List.all_cons, List.all_cons, List.all_cons, sa, sb, sc]; rfl
theorem arm_asg (IHe : Snd C T Φ G rec) (hX : Hd C T Φ G X) (hS : SOkF X S) {i : Nat} {ie : IE} (h : ckS rec f S st (.asg i ie) = true) (hv : evS T Φ F (.asg i ie) en = some (fl, en')) : PS X st (tS G [i] en fl en') := by
  unfold ckS at h
  dsimp only at h
  split at h
  · rename_i x p ex pos
    rw [Bool.and_eq_true, Bool.and_eq_true, Bool.and_eq_true] at h
    obtain ⟨⟨⟨h1, h2⟩, h3⟩, h4⟩ := h
    unfold evS at hv
    cases hr : evE T Φ ie en with
    | none => rw [hr] at hv; cases hv
    | some r =>
      rw [hr] at hv
      simp only at hv
      cases hp : putO r.en i r.fr r.d with
      | none => rw [hp] at hv; cases hv
      | some en2 =>
        rw [hp] at hv
        cases hv
        obtain ⟨k1, k2, k3⟩ := t1_of hS.ok h1
        have hsw := swap_of (l := pos.line) (p := p) (x := x) hS h2
        cases hb : swapB S ex x p with
        | false =>
          rw [hb] at hsw
          exact s_asg hX.nd k1 k2 (IHe.e X S hX hS.ok _ _ h3 en r hr) hsw k3 hp
        | true =>
          rw [hb] at hsw h4
          simp only [Bool.not_true, Bool.false_or] at h4
          split at h4
          · rename_i xe t it cs sc ps elt tg k src ifs own vis
            obtain ⟨xe', t', iter, cs', scope, pos', xs, ys, c, en1, en2', ow, he0, hm, pi, bo, hg, ht, he, hf, hsl, hown, hl, hrr⟩ := (lc_parts IHe hX hS.ok h4 hr).ex
            cases he0
            subst hrr
            have hyl : X.env.scope.names.lookup x = some .local := by
              unfold swapB at hb
              dsimp only at hb
              rw [Bool.and_eq_true, Bool.and_eq_true] at hb
              exact loc_of hS hb.1.1
            exact asg_of (s_asgLc hX.hG hX.calm hX.nd k1 hyl hsw pi bo hg ht he hf hsl hown hl) hp
          · cases h4
  · cases h
theorem arm_asgT (IHe : Snd C T Φ G rec) (hX : Hd C T Φ G X) (hS : SOkF X S) {is : List Nat} {ie : IE} (h : ckS rec f S st (.asgT is ie) = true) (hv : evS T Φ F (.asgT is ie) en = some (fl, en')) : PS X st (tS G is en fl en') := by
  unfold ckS at h
  dsimp only at h
  split at h
  · rename_i ts k p ex pos
    rw [Bool.and_eq_true, Bool.and_eq_true, Bool.and_eq_true] at h
    obtain ⟨⟨⟨h1, h2⟩, h3⟩, h4⟩ := h
    unfold evS at hv
    cases hr : evE T Φ ie en with
    | none => rw [hr] at hv; cases hv
    | some r =>
      rw [hr] at hv
      simp only at hv
      cases hp : asgTg r.en r.d (.tp is) with
      | none => rw [hp] at hv; cases hv
      | some en2 =>
        rw [hp] at hv
        cases hv
        have hg := tg_of hX hS.ok h1
        rw [← hX.hG] at hg
        exact s_asgT (t := .tp is) (IHe.e X S hX hS.ok _ _ h4 en r hr) hg (show swapsWith ex (some (.Tuple ts k p)) pos.line X.env = pure false from swap_no h2) (stores_tup (by simpa using h3)) rfl hp
  · cases h
theorem arm_par (IHe : Snd C T Φ G rec) (hX : Hd C T Φ G X) (hS : SOkF X S) {is : List Nat} {es : List IE} (h : ckS rec f S st (.par is es) = true) (hv : evS T Φ F (.par is es) en = some (fl, en')) : PS X st (tS G is en fl en') := by
  unfold evS at hv
  cases hr : evP T Φ es en with
  | none => rw [hr] at hv; cases hv
  | some pp =>
    obtain ⟨ds, en1⟩ := pp
    rw [hr] at hv
    simp only at hv
    cases hp : putF en1 is ds with
    | none => rw [hp] at hv; cases hv
    | some en2 =>
      rw [hp] at hv
      cases hv
      unfold ckS at h
      dsimp only at h
      rw [Bool.or_eq_true] at h
      rcases h with h | h
      · unfold ckParC at h
        split at h
        · rename_i ts k p xs k2 p2 pos
          simp only [Bool.and_eq_true, decide_eq_true_eq] at h
          obtain ⟨⟨⟨⟨h1, h2⟩, h3⟩, h4⟩, h5⟩ := h
          have hg := tg_of hX hS.ok h1
          rw [← hX.hG] at hg
          exact s_parC hX.hG hg (snd_p IHe hX hS.ok h4 h3 hr) (show swapsWith (.Tuple xs k2 p2) (some (.Tuple ts k p)) pos.line X.env = pure false from swap_no rfl) (stores_cell hS h2) rfl (by rw [putF_len hp]; exact Nat.le_trans h5 (by decide)) hp
        · cases h
      unfold ckParL at h
      split at h
      · rename_i x px y py kt pt a b k2 pt2 pos i j ia ib
        simp only [Bool.and_eq_true, decide_eq_true_eq] at h
        obtain ⟨⟨⟨⟨⟨⟨⟨⟨⟨⟨⟨h1, h2⟩, h3⟩, h4⟩, h5⟩, h6⟩, h7⟩, h8⟩, h9⟩, h10⟩, h11⟩, h12⟩ := h
        have sa : isStar a = false := by simpa using h8
        have sb : isStar b = false := by simpa using h9
        have pa := snd_p (es := [a, b]) IHe hX hS.ok (by simp only [ckL, h11, h12, Bool.and_self]) (star_two sa sb) hr
        exact s_par2 hX.calm hX.nd (t1_of hS.ok h1).1 (t1_of hS.ok h2).1 h5 (loc_of hS h3) (loc_of hS h4) pa (stores_two hS h3 h4 h7 h6 sa sb (by simpa using h10)) rfl hp
      · rename_i x px y py z pz kt pt a b c k2 pt2 pos i j l ia ib ic
        simp only [Bool.and_eq_true, decide_eq_true_eq] at h
        obtain ⟨⟨⟨⟨⟨⟨⟨⟨⟨⟨⟨⟨⟨⟨⟨⟨⟨⟨⟨⟨h1, h2⟩, h2'⟩, h3⟩, h4⟩, h4'⟩, h5⟩, h5'⟩, h5''⟩, h6⟩, h6'⟩, h6''⟩, h7⟩, h7'⟩, h8⟩, h9⟩, h9'⟩, h10⟩, h11⟩, h12⟩, h13⟩ := h
        have sa : isStar a = false := by simpa using h8
        have sb : isStar b = false := by simpa using h9
        have sc : isStar c = false := by simpa using h9'
        have pa := snd_p (es := [a, b, c]) IHe hX hS.ok (by simp only [ckL, h11, h12, h13, Bool.and_self]) (star_three sa sb sc) hr
        exact s_par3 hX.calm hX.nd (t1_of hS.ok h1).1 (t1_of hS.ok h2).1 (t1_of hS.ok h2').1 h5 h5' h5'' (loc_of hS h3) (loc_of hS h4) (loc_of hS h4') pa (stores_three hS h3 h4 h4' h7 h7' h6 h6' h6'' sa sb sc (by simpa using h10)) rfl hp
      · cases h
end
end Py
/-! Every statement that is checked is true: the rest. -/
namespace Py
open PySem PySem.Spec PyProof.Rows L2
open Classical
section
variable {C : CT} {T : Tab} {Φ : Nat → FnSem} {F : Nat} {G : Gb} {rec : Sc → Expr → IE → Bool} {X : Cx} {S : Sc} {W W' : Wd} {q : Bool} {en en' en1 en2 en3 : Stt} {r : R} {b : Bool} {e : Expr} {st : Stmt} {fl : Fl} {f : Stmt → IS → Bool}
theorem arg_place {i : Nat} {s : Slot} {g : Stt → Option R} (hs : en.loc[i]? = some s) (ho : s.own = true) : argOf (.loc i) g en = some (.pl (.loc i), en) := by
  unfold argOf
  show (match en.loc[i]? with | some (.sh d) => some (AV.val d false, en) | some .no => none | some _ => some (AV.pl (.loc i), en) | none => none) = _
  rw [hs]
  cases s <;> first | rfl | cases ho
theorem set_sub {o i : Expr} {p : Pos} (h : noSl i = true) : ∀ v, assign (.Subscript o i p) X.env v = (do
      let ov ← holding [v] (eval o X.env)
      let iv ← holding [v, ov] (eval i X.env)
      standAt p
      holding [v, ov, iv] (setItem ov iv v)
      release [v, ov, iv] []) := by
  intro v
  cases i <;> first | rfl | cases h
theorem aug_sub {i : Expr} (h : noSl i = true) : ∀ ov iv new, augStore i ov iv new = (do holding [new, ov, iv] (setItem ov iv new); release [new, ov, iv] []; pure .next) := by
  intro ov iv new
  cases i <;> first | rfl | cases h
theorem arm_seti (IHe : Snd C T Φ G rec) (hX : Hd C T Φ G X) (hS : SOkF X S) {o k ie : IE} (h : ckS rec f S st (.seti o k ie) = true) (hv : evS T Φ F (.seti o k ie) en = some (fl, en')) : PS X st (tS G [] en fl en') := by
  unfold ckS at h
  dsimp only at h
  split at h
  · rename_i x y p ex pos
    rw [Bool.and_eq_true, Bool.and_eq_true, Bool.and_eq_true] at h
    obtain ⟨⟨⟨h1, h2⟩, h3⟩, h4⟩ := h
    unfold evS at hv
    cases o <;> first | (cases hv; done) | skip
    rename_i i
    dsimp only at hv
    cases hr : evE T Φ ie en with
    | none => rw [hr] at hv; cases hv
    | some r =>
      rw [hr] at hv
      simp only at hv
      cases hs : r.en.loc[i]? with
      | none => rw [hs] at hv; cases hv
      | some s =>
        rw [hs] at hv
        simp only at hv
        cases hk : evArg T Φ k r.en with
        | none => rw [hk] at hv; cases hv
        | some pp =>
          obtain ⟨kv, en3⟩ := pp
          rw [hk] at hv
          simp only at hv
          split at hv
          · rename_i hown
            obtain ⟨d, kd, hd, hkd, hv⟩ : ∃ d kd, (en3.at (.loc i)).dat = some d ∧ kv.dat en3 = some kd ∧ (match setD d kd r.d with | some d' => some (Fl.nx, en3.setP (.loc i) ((en3.at (.loc i)).upd d')) | none => none) = some (fl, en') := by
              cases hd : (en3.at (.loc i)).dat with
              | none => rw [hd] at hv; cases hv
              | some d =>
                cases hkd : kv.dat en3 with
                | none => rw [hd, hkd] at hv; cases hv
                | some kd => rw [hd, hkd] at hv; exact ⟨d, kd, rfl, rfl, hv⟩
            cases hz : setD d kd r.d with
            | none => rw [hz] at hv; cases hv
            | some d' =>
              rw [hz] at hv
              cases hv
              obtain ⟨tset, hset, hlaw⟩ := set_law (G := G) (X := X) hz
              have pa := snd_arg IHe hX hS.ok h3 (arg_place (g := fun en => evE T Φ (.loc i) en) hs hown.2)
              exact s_seti hX.hG (IHe.e X S hX hS.ok _ _ h2 en r hr) pa (snd_arg IHe hX hS.ok h4 hk) hset hlaw (fun z => nomatch z) hown.1 hd hkd swap_sub stores_sub rfl (set_sub h1)
          · cases hv
  · cases h
theorem get_list : PGet X (rIxL X.K) := by
  intro pins s σ H o i ov iv Q I ro ri h
  obtain ⟨p, xs, k, z, rfl, rfl, hq, he, q⟩ := h
  cases ro
  obtain ⟨t, rfl⟩ := ri
  obtain ⟨its, r, pl, hz⟩ := I.list hq
  obtain ⟨j, h1, h2, h3, h4, h5⟩ := atI_get he
  obtain ⟨w, ew, rw'⟩ := r.get h2
  have hl := r.length
  have hn := line63
  have fin : EP X pins σ Q w s := ⟨z, H, I, rw', q⟩
  by_cases h0 : 0 ≤ k
  · have hj : k.toNat = j := by
      rw [seqIndex_of h0 h5] at h1
      exact Option.some.inj h1
    exact wpAny_getItem_list pl.isList h0 (by omega) (by rw [hj]; simpa using ew) fin
  · have hj : (k + (its.toArray.size : Int)).toNat = j := by
      rw [seqIndex_neg (by omega) h4] at h1
      rw [List.size_toArray, ← hl]
      exact Option.some.inj h1
    exact wpAny_getItem_list_neg pl.isList (by omega) (by rw [List.size_toArray] <;> omega) (by omega) (by rw [hj]; simpa using ew) fin
theorem rd_list (hG : G.K = X.K) {xs : List D} {k old : D} (h : idxD (.lst xs) k = some old) : Rd2 G (rIxL X.K) (.lst xs) k old false := by
  cases k <;> first | (cases h; done) | skip
  intro W v u Q ok hl h1 h2 kk
  obtain ⟨a, vs, rfl, sh, dl⟩ := h1.lst ok
  obtain ⟨z, hz, dz⟩ := dl.at h
  exact ⟨a, vs, _, z, rfl, h2.int, .inl (.inl sh), hz, kk _ W (PStep.refl W) ok dz⟩
theorem arm_augi (IHe : Snd C T Φ G rec) (hX : Hd C T Φ G X) (hS : SOkF X S) {o k ie : IE} {op : Operator} (h : ckS rec f S st (.augi o k op ie) = true) (hv : evS T Φ F (.augi o k op ie) en = some (fl, en')) : PS X st (tS G [] en fl en') := by
  unfold ckS at h
  dsimp only at h
  split at h
  · rename_i x y p op' ex pos
    rw [Bool.and_eq_true, Bool.and_eq_true, Bool.and_eq_true, Bool.and_eq_true, decide_eq_true_eq] at h
    obtain ⟨⟨⟨⟨rfl, h1⟩, h2⟩, h3⟩, h4⟩ := h
    unfold evS at hv
    cases o <;> first | (cases hv; done) | skip
    rename_i i
    dsimp only at hv
    cases hs : en.loc[i]? with
    | none => rw [hs] at hv; cases hv
    | some s =>
      rw [hs] at hv
      simp only at hv
      split at hv
      rotate_left
      · cases hv
      rename_i hso
      cases hk : evArg T Φ k en with
      | none => rw [hk] at hv; cases hv
      | some pp =>
        obtain ⟨kv, en2⟩ := pp
        rw [hk] at hv
        simp only at hv
        cases hd : (en2.at (.loc i)).dat with
        | none => rw [hd] at hv; cases hv
        | some d =>
        cases hkd : kv.dat en2 with
        | none => rw [hd, hkd] at hv; cases hv
        | some kd =>
        rw [hd, hkd] at hv
        simp only at hv
        cases hold : idxD d kd with
        | none => rw [hold] at hv; cases hv
        | some old =>
        rw [hold] at hv
        simp only at hv
        cases hr : evE T Φ ie en2 with
        | none => rw [hr] at hv; cases hv
        | some r =>
        rw [hr] at hv
        simp only at hv
        cases hz : augD op' old r.d with
        | none => rw [hz] at hv; cases hv
        | some z =>
        cases hd2 : (r.en.at (.loc i)).dat with
        | none => rw [hz, hd2] at hv; cases hv
        | some d2 =>
        cases hkd2 : kv.dat r.en with
        | none => rw [hz, hd2, hkd2] at hv; cases hv
        | some kd2 =>
        rw [hz, hd2, hkd2] at hv
        simp only at hv
        split at hv
        rotate_left
        · cases hv
        rename_i hsame
        cases hset : setD d2 kd2 z with
        | none => rw [hset] at hv; cases hv
        | some d' =>
        rw [hset] at hv
        simp only at hv
        split at hv
        rotate_left
        · cases hv
        rename_i hown
        cases hv
        obtain ⟨tset, hps, hlaw⟩ := set_law (G := G) (X := X) hset
        obtain ⟨rr, hop, hrr⟩ := aug_ok (X := X) hX.hG hz
        have pa := snd_arg IHe hX hS.ok h3 (arg_place (g := fun en => evE T Φ (.loc i) en) hs hso)
        have hdl : ∃ xs, d = .lst xs := by
          unfold setD at hset
          split at hset
          · cases d <;> first | exact ⟨_, rfl⟩ | cases hsame
          · cases hset
        obtain ⟨xs, rfl⟩ := hdl
        exact s_augi hX.hG pa (snd_arg IHe hX hS.ok h4 hk) get_list (rd_list hX.hG hold) (IHe.e X S hX hS.ok _ _ h2 en2 r hr) hop hrr hps hlaw (fun z => nomatch z) hd hkd (fun z => by rw [argOf_noF hk] at z; cases z) hown hd2 hkd2 (aug_sub h1)
  · cases h
theorem arm_aug (IHe : Snd C T Φ G rec) (hX : Hd C T Φ G X) (hS : SOkF X S) {i : Nat} {op : Operator} {ie : IE} (h : ckS rec f S st (.aug i op ie) = true) (hv : evS T Φ F (.aug i op ie) en = some (fl, en')) : PS X st (tS G [i] en fl en') := by
  unfold ckS at h
  dsimp only at h
  split at h
  · rename_i x p op' ex pos
    rw [Bool.and_eq_true, Bool.and_eq_true, decide_eq_true_eq] at h
    obtain ⟨⟨rfl, h2⟩, h3⟩ := h
    unfold evS at hv
    cases hs : en.loc[i]? with
    | none => rw [hs] at hv; cases hv
    | some s =>
      rw [hs] at hv
      cases s <;> first | (cases hv; done) | skip
      rename_i d
      simp only at hv
      cases hr : evE T Φ ie en with
      | none => rw [hr] at hv; cases hv
      | some r =>
        rw [hr] at hv
        simp only at hv
        cases hz : augD op' d r.d with
        | none => rw [hz] at hv; cases hv
        | some z =>
          rw [hz] at hv
          simp only at hv
          cases hp : putO r.en i false z with
          | none => rw [hp] at hv; cases hv
          | some en2 =>
            rw [hp] at hv
            cases hv
            obtain ⟨k1, k2, k3⟩ := t1_of hS.ok h2
            obtain ⟨rr, ho, hrr⟩ := aug_ok (X := X) hX.hG hz
            exact s_aug hX.hG hX.nd k1 k2 (IHe.e X S hX hS.ok _ _ h3 en r hr) ho hrr k3 hs hp
  · cases h
theorem arm_ite_s (IHe : Snd C T Φ G rec) (IHs : SndS T Φ F G X f) (hX : Hd C T Φ G X) (hS : SOkF X S) {c : IE} {a b : List IS} (h : ckS rec f S st (.ite c a b) = true) (hv : evS T Φ F (.ite c a b) en = some (fl, en')) : PS X st (tS G (wrSs a ++ wrSs b) en fl en') := by
  unfold ckS at h
  dsimp only at h
  split at h
  · rename_i x p q pos
    rw [Bool.and_eq_true, Bool.and_eq_true] at h
    obtain ⟨⟨h1, h2⟩, h3⟩ := h
    unfold evS at hv
    cases hc : evB T Φ c en with
    | none => rw [hc] at hv; cases hv
    | some pp =>
      obtain ⟨k, en1⟩ := pp
      rw [hc] at hv
      obtain ⟨fr, hc'⟩ := evB_inv hc
      have pc := IHe.t X S hX hS.ok _ _ h1 _ _ _ _ hc'
      cases k with
      | true =>
        have pb := snd_ss hX IHs h2 hv
        exact ps_mono (s_if (x := true) (tp := tNever) (tn := tNever) pc pss_never pss_never pb) fun i hi => List.mem_append_left _ hi
      | false =>
        have pb := snd_ss hX IHs h3 hv
        exact ps_mono (s_if (x := false) (tp := tNever) (tn := tNever) pc pss_never pss_never pb) fun i hi => List.mem_append_right _ hi
  · cases h
theorem arm_for (IHe : Snd C T Φ G rec) (IHs : SndS T Φ F G X f) (hX : Hd C T Φ G X) (hS : SOkF X S) {tg : Tg} {k : IK} {src : List IE} {body : List IS} (h : ckS rec f S st (.for tg k src body) = true) (hv : evS T Φ F (.for tg k src body) en = some (fl, en')) : PS X st (tS G (tg.slots ++ wrSs body) en fl en') := by
  unfold ckS at h
  dsimp only at h
  split at h
  · rename_i t it bd pos
    rw [Bool.and_eq_true, Bool.and_eq_true, Bool.and_eq_true] at h
    obtain ⟨⟨⟨h1, h2⟩, h3⟩, h4⟩ := h
    unfold evS at hv
    cases hs : evSrc T Φ k src en with
    | none => rw [hs] at hv; cases hv
    | some pp =>
      obtain ⟨xs, c, en1⟩ := pp
      rw [hs] at hv
      simp only at hv
      obtain ⟨pi, hc⟩ := src_of IHe hX hS.ok h2 (.inl h1) hs
      have hg := tg_of hX hS.ok h1
      rw [← hX.hG] at hg
      refine s_for hS.own hX.calm pi hg (any_ss hX IHs h3) (folded_no (src_noSet h2)) (fun x ds i z1 z2 => ?_) hv
      obtain ⟨e1, e2⟩ := hc x ds i z1 z2
      subst e1 e2
      simpa using h4
  · cases h
theorem arm_whl (IHe : Snd C T Φ G rec) (IHs : SndS T Φ F G X f) (hX : Hd C T Φ G X) (hS : SOkF X S) {c : IE} {body : List IS} (h : ckS rec f S st (.whl c body) = true) (hv : evS T Φ F (.whl c body) en = some (fl, en')) : PS X st (tS G (wrSs body) en fl en') := by
  unfold ckS at h
  dsimp only at h
  split at h
  · rename_i x bd pos
    rw [Bool.and_eq_true] at h
    unfold evS at hv
    exact s_whl hS.own (any_b IHe hX hS.ok h.1) (any_ss hX IHs h.2) hv
  · cases h
theorem arm_ret (IHe : Snd C T Φ G rec) (hX : Hd C T Φ G X) (hS : SOkF X S) {ie : IE} (hl : ∀ S e i, rec S e (.loc i) = true → ∃ x pos, e = .Name x pos ∧ ckN S x i = true) (h : ckS rec f S st (.ret ie) = true) (hv : evS T Φ F (.ret ie) en = some (fl, en')) : PS X st (tS G [] en fl en') := by
  unfold ckS at h
  dsimp only at h
  split at h
  · rename_i x pos
    unfold evS at hv
    have main : ∀ r, evE T Φ ie en = some r → PS X (.Return (some x) pos) (tS G [] en (.rt r.d r.fr) r.en) := fun r hr => s_ret (IHe.e X S hX hS.ok _ _ h en r hr)
    split at hv
    · rename_i d en0 hm
      cases hv
      split at hm
      · rename_i i
        split at hm
        · rename_i d0 hs
          cases hm
          obtain ⟨nm, p, rfl, hn⟩ := hl S x i h
          obtain ⟨hn, hvis⟩ := ckN_N hn
          have hd := dbg_of (hS.ok.dbg nm (List.mem_of_getElem? hn))
          exact s_retO hX.hG (by rw [hS.ok.hN]; exact hn) (by rw [hS.ok.hsc]; exact hS.ok.vis i nm hvis hn) hd.1 hd.2 hs
        · cases hm
      · cases hm
    · cases hr : evE T Φ ie en with
      | none => rw [hr] at hv; cases hv
      | some r =>
        rw [hr] at hv
        cases hv
        exact main r hr
  · cases h
theorem arm_s (IHe : Snd C T Φ G rec) (IHs : SndS T Φ F G X f) (hX : Hd C T Φ G X) (hS : SOkF X S) {i : IS} (h : ckS rec f S st i = true) (hv : evS T Φ F i en = some (fl, en')) : PS X st (tS G (wrS i) en fl en') := by
  cases i with
  | asg i e => exact arm_asg IHe hX hS h hv
  | asgT is e => exact arm_asgT IHe hX hS h hv
  | par is es => exact arm_par IHe hX hS h hv
  | seti o k e => exact arm_seti IHe hX hS h hv
  | augi o k op e => exact arm_augi IHe hX hS h hv
  | aug i op e => exact arm_aug IHe hX hS h hv
  | fset o g e => unfold ckS at h; cases h
  | faug o g op e => unfold ckS at h; cases h
  | exp ie =>
    unfold ckS at h
    dsimp only at h
    split at h
    · rename_i ex pos
      rw [Bool.and_eq_true] at h
      unfold evS at hv
      cases hr : evE T Φ ie en with
      | none => rw [hr] at hv; cases hv
      | some r =>
        rw [hr] at hv
        cases hv
        exact s_exp (IHe.e X S hX hS.ok _ _ h.2 en r hr) (swap_no h.1)
    · cases h
  | ite c a b => exact arm_ite_s IHe IHs hX hS h hv
  | «for» tg k src body => exact arm_for IHe IHs hX hS h hv
  | whl c body => exact arm_whl IHe IHs hX hS h hv
  | ret e => exact arm_ret IHe hX hS IHe.l h hv
  | retN =>
    unfold ckS at h
    dsimp only at h
    split at h
    · unfold evS at hv; cases hv; exact s_retN hX.hG
    · cases h
  | brk =>
    unfold ckS at h
    dsimp only at h
    split at h
    · unfold evS at hv; cases hv; exact s_break hX.hG
    · cases h
  | cnt =>
    unfold ckS at h
    dsimp only at h
    split at h
    · unfold evS at hv; cases hv; exact s_cont hX.hG
    · cases h
  | pas =>
    unfold ckS at h
    dsimp only at h
    split at h
    · unfold evS at hv; cases hv; exact s_pass hX.hG
    · cases h
  | die => unfold ckS at h; cases h
theorem snd_st (hX : Hd C T Φ G X) (hS : SOkF X S) (m : Nat) : ∀ n, SndS T Φ F G X (ckSt C m n S)
  | 0 => fun _ _ h => (nomatch h)
  | n + 1 => fun st i h en fl en' hv => arm_s (snd_ck m) (snd_st hX hS m n) hX hS h hv
end
end Py
/-! A def, by its body. -/
namespace Py
open PySem PySem.Spec PyProof.Rows L2
open Classical
def outsOf : List Bool → List Slot → Option (List D)
  | [], _ => some []
  | true :: io, .io d :: r => (outsOf io r).map (d :: ·)
  | false :: io, _ :: r => outsOf io r
  | _, _ => none
noncomputable def fnE (T : Tab) (Φ : Nat → FnSem) (F : Nat) (io : List Bool) (n : Nat) (body : List IS) : FnSem := fun ds obs =>
  match evSs T Φ F body ⟨parS io ds ++ List.replicate n .no, obs⟩ with
  | some (.rt d fr, en') => (match outsOf io en'.loc with | some outs => some ⟨d, fr, outs, en'.obs⟩ | none => none)
  | some (.nx, en') => (match outsOf io en'.loc with | some outs => some ⟨.non, false, outs, en'.obs⟩ | none => none)
  | _ => none
theorem parS_noow : ∀ {io : List Bool} {ds : List D} {i : Nat} {s : Slot}, (parS io ds)[i]? = some s → ∃ d b, io[i]? = some b ∧ ds[i]? = some d ∧ s = (if b = true then .io d else .sh d)
  | true :: io, d :: ds, 0, s, h => by unfold parS at h; simp at h; exact ⟨d, true, rfl, rfl, h.symm⟩
  | false :: io, d :: ds, 0, s, h => by unfold parS at h; simp at h; exact ⟨d, false, rfl, rfl, h.symm⟩
  | true :: io, d :: ds, i + 1, s, h => by
    unfold parS at h
    obtain ⟨d', b, h1, h2, h3⟩ := parS_noow (by simpa using h)
    exact ⟨d', b, by simpa using h1, by simpa using h2, h3⟩
  | false :: io, d :: ds, i + 1, s, h => by
    unfold parS at h
    obtain ⟨d', b, h1, h2, h3⟩ := parS_noow (by simpa using h)
    exact ⟨d', b, by simpa using h1, by simpa using h2, h3⟩
  | [], _, _, _, h => by simp [parS] at h
  | true :: _, [], _, _, h => by simp [parS] at h
  | false :: _, [], _, _, h => by simp [parS] at h
theorem outS_at : ∀ {io : List Bool} {ds outs : List D} {l : List Slot} {i : Nat} {s : Slot}, outsOf io l = some outs → (outS io ds outs)[i]? = some s →
    (io[i]? = some false ∧ ∃ d, ds[i]? = some d ∧ s = .sh d) ∨ (io[i]? = some true ∧ ∃ o, l[i]? = some (.io o) ∧ s = .io o)
  | [], _, _, _, _, _, _, h => by simp [outS] at h
  | true :: io, ds, outs, l, i, s, ho, h => by
    cases l with
    | nil => simp [outsOf] at ho
    | cons s0 l =>
      cases s0 <;> first | (simp [outsOf] at ho; done) | skip
      rename_i d0
      unfold outsOf at ho
      cases hr : outsOf io l with
      | none => rw [hr] at ho; cases ho
      | some os =>
        rw [hr] at ho
        cases ho
        cases ds with
        | nil => simp [outS] at h
        | cons d ds =>
          unfold outS at h
          cases i with
          | zero => simp at h; subst h; exact .inr ⟨rfl, d0, rfl, rfl⟩
          | succ i =>
            rcases outS_at hr (by simpa using h) with ⟨h1, d', h2, h3⟩ | ⟨h1, o, h2, h3⟩
            · exact .inl ⟨by simpa using h1, d', by simpa using h2, h3⟩
            · exact .inr ⟨by simpa using h1, o, by simpa using h2, h3⟩
  | false :: io, ds, outs, l, i, s, ho, h => by
    cases l with
    | nil => simp [outsOf] at ho
    | cons s0 l =>
      have ho : outsOf io l = some outs := by simpa [outsOf] using ho
      cases ds with
      | nil => simp [outS] at h
      | cons d ds =>
        unfold outS at h
        cases i with
        | zero => simp at h; subst h; exact .inl ⟨rfl, d, rfl, rfl⟩
        | succ i =>
          rcases outS_at ho (by simpa using h) with ⟨h1, d', h2, h3⟩ | ⟨h1, o, h2, h3⟩
          · exact .inl ⟨by simpa using h1, d', by simpa using h2, h3⟩
          · exact .inr ⟨by simpa using h1, o, by simpa using h2, h3⟩
theorem outS_len : ∀ {io : List Bool} {ds outs : List D} {l : List Slot}, outsOf io l = some outs → (parS io ds).length = io.length → (outS io ds outs).length = io.length
  | [], _, _, _, _, _ => by simp [outS]
  | true :: io, ds, outs, l, ho, h => by
    cases l with
    | nil => simp [outsOf] at ho
    | cons s0 l =>
      cases s0 <;> first | (simp [outsOf] at ho; done) | skip
      unfold outsOf at ho
      cases hr : outsOf io l with
      | none => rw [hr] at ho; cases ho
      | some os =>
        rw [hr] at ho
        cases ho
        cases ds with
        | nil => simp [parS] at h
        | cons d ds =>
          unfold parS at h
          unfold outS
          rw [List.length_cons, List.length_cons, outS_len hr (by simpa using h)]
  | false :: io, ds, outs, l, ho, h => by
    cases l with
    | nil => simp [outsOf] at ho
    | cons s0 l =>
      have ho : outsOf io l = some outs := by simpa [outsOf] using ho
      cases ds with
      | nil => simp [parS] at h
      | cons d ds =>
        unfold parS at h
        unfold outS
        rw [List.length_cons, List.length_cons, outS_len ho (by simpa using h)]
section
variable {G : Gb} {W W' : Wd} {en en' : Stt} {σ σ' : L2.St}
/-- the names' places beyond the parameters -/
theorem Rep.start {io : List Bool} {ds : List D} {obs : List Ob} {vs : List V} {n : Nat} (rp : Rep G W (vs.map some) ⟨parS io ds, obs⟩) :
    Rep G { W with B := fun p => ∃ o, W.H p = some o } (vs.map some ++ List.replicate n none) ⟨parS io ds ++ List.replicate n .no, obs⟩ := by
  have hl : (parS io ds).length = vs.length := by have := rp.len; simpa using this
  have at1 : ∀ i, Stt.at ⟨parS io ds ++ List.replicate n .no, obs⟩ (.loc i) = Stt.at ⟨parS io ds, obs⟩ (.loc i) := fun i => by
    show (parS io ds ++ List.replicate n Slot.no).getD i .no = (parS io ds).getD i .no
    by_cases hi : i < (parS io ds).length
    · rw [List.getD, List.getD, List.getElem?_append_left hi]
    · rw [List.getD, List.getD, List.getElem?_append_right (Nat.le_of_not_lt hi), List.getElem?_eq_none (Nat.le_of_not_lt hi)]
      rw [List.getElem?_replicate]
      split <;> rfl
  have at2 : ∀ x, Stt.at ⟨parS io ds ++ List.replicate n .no, obs⟩ x = Stt.at ⟨parS io ds, obs⟩ x := fun x => by
    cases x with
    | loc i => exact at1 i
    | fld m f => rfl
  refine ⟨by simp [hl], rp.obs, rp.nod, fun m ob e => (rp.ob m ob e).ex |> fun z => ⟨z⟩, rp.nof, ?_⟩
  obtain ⟨own, h1, h2⟩ := rp.ex
  refine ⟨own, fun x => ?_, fun x y hx hy => h2 x y (by rw [← at2]; exact hx) (by rw [← at2]; exact hy)⟩
  rw [at2 x]
  rcases h1 x with z | ⟨v, z1, z2⟩
  · exact .inl z
  · refine .inr ⟨v, ?_, ?_⟩
    · cases x with
      | loc i =>
        have z1 : (vs.map some)[i]? = some (some v) := z1
        show (vs.map some ++ List.replicate n none)[i]? = _
        rw [List.getElem?_append_left (lt_of_get z1)]; exact z1
      | fld m f => exact z1
    · have hno : ∀ d, Stt.at ⟨parS io ds, obs⟩ x ≠ .ow d := fun d z => by
        cases x with
        | loc i =>
          have z : (parS io ds).getD i .no = .ow d := z
          cases q : (parS io ds)[i]? with
          | none => rw [List.getD, q] at z; cases z
          | some s =>
            rw [getD_of q] at z
            obtain ⟨d', b, _, _, e⟩ := parS_noow q
            subst e
            cases b <;> cases z
        | fld m f => exact rp.nof m f d z
      generalize Stt.at ⟨parS io ds, obs⟩ x = s at z2 hno
      cases s with
      | no => trivial
      | sh d => exact z2
      | ow d => exact absurd rfl (hno d)
      | io d => exact ⟨z2.1, z2.2.1, by have := z2.2.2; cases d <;> exact this⟩
end
end Py
/-! A def keeps the promise that the evaluator reads from its body. -/
namespace Py
open PySem PySem.Spec PyProof.Rows L2
open Classical
section
variable {G : Gb} {W W' : Wd} {en en' : Stt} {σ σ' : L2.St}
def Wd.atB (W : Wd) (B : Addr → Prop) : Wd := { W with B := B }
/-- at the end: the parameters' places -/
theorem Rep.finish {io : List Bool} {ds outs : List D} {obs : List Ob} {vs : List V} {n : Nat} {ws : List Nat} (rp : Rep G W (vs.map some) ⟨parS io ds, obs⟩) (st : Step (W.atB fun p => ∃ o, W.H p = some o) W') (hl : vs.length = io.length)
    (rp' : Rep G W' σ' en') (oa : OnlyAt ws (vs.map some ++ List.replicate n none) σ') (hw : ∀ i, io[i]? = some true → i ∉ ws) (ho : outsOf io en'.loc = some outs) :
    Rep G (W'.atB W.B) (vs.map some) ⟨outS io ds outs, en'.obs⟩ := by
  have hpl : (parS io ds).length = io.length := by have := rp.len; simp at this; omega
  obtain ⟨own, h1, h2⟩ := rp'.ex
  obtain ⟨own0, k1, k2⟩ := rp.ex
  have cc : ∀ {d p}, Cont G W' d p → Cont G (W'.atB W.B) d p := fun {d p} c => by cases d <;> exact c
  have at1 : ∀ i, (outS io ds outs).getD i .no = .no ∨ (io[i]? = some false ∧ ∃ d, ds[i]? = some d ∧ (outS io ds outs).getD i .no = .sh d) ∨ (io[i]? = some true ∧ ∃ o, en'.at (.loc i) = .io o ∧ (outS io ds outs).getD i .no = .io o) := fun i => by
    cases q : (outS io ds outs)[i]? with
    | none => exact .inl (by rw [List.getD, q]; rfl)
    | some s =>
      rw [getD_of q]
      rcases outS_at ho q with ⟨a, d, b, c⟩ | ⟨a, o, b, c⟩
      · exact .inr (.inl ⟨a, d, b, c⟩)
      · exact .inr (.inr ⟨a, o, getD_of b, c⟩)
  refine ⟨by show (outS io ds outs).length = _; rw [outS_len ho hpl, List.length_map, hl], rp'.obs, rp'.nod, fun m ob e => ⟨(rp'.ob m ob e).ex⟩, rp'.nof, own, fun x => ?_, fun x y hx hy e => h2 x y ?_ ?_ e⟩
  · cases x with
    | loc i =>
      show (outS io ds outs).getD i .no = .no ∨ ∃ v, ValAt G _ _ (.loc i) v ∧ SlotOk G _ _ ((outS io ds outs).getD i .no) v
      rcases at1 i with z | ⟨a, d, b, c⟩ | ⟨a, o, b, c⟩
      · exact .inl z
      · rw [c]
        right
        have hp : Stt.at ⟨parS io ds, obs⟩ (.loc i) = .sh d := by
          show (parS io ds).getD i .no = _
          cases q : (parS io ds)[i]? with
          | none =>
            have h3 := List.getElem?_eq_none_iff.mp q
            have h4 := lt_of_get a
            omega
          | some s =>
            obtain ⟨d', bb, g1, g2, g3⟩ := parS_noow q
            rw [a] at g1; cases g1
            rw [b] at g2; cases g2
            rw [getD_of q, g3]; rfl
        rcases k1 (.loc i) with y | ⟨v, y1, y2⟩
        · rw [hp] at y; cases y
        · rw [hp] at y2
          exact ⟨v, y1, Dat.mono st.U st.A y2⟩
      · rw [c]
        right
        rcases h1 (.loc i) with y | ⟨v, y1, y2⟩
        · rw [b] at y; cases y
        · rw [b] at y2
          have y1 : σ'[i]? = some (some v) := y1
          rw [oa.2 i (hw i a)] at y1
          have hi : i < (vs.map some).length := by rw [List.length_map, hl]; exact lt_of_get a
          rw [List.getElem?_append_left hi] at y1
          exact ⟨v, y1, y2.1, y2.2.1, cc y2.2.2⟩
    | fld m f =>
      rcases h1 (.fld m f) with y | ⟨v, y1, y2⟩
      · exact .inl y
      · refine .inr ⟨v, y1, ?_⟩
        have hno : ∀ d, en'.at (.fld m f) ≠ .ow d := fun d z => rp'.nof m f d z
        have e : Stt.at ⟨outS io ds outs, en'.obs⟩ (.fld m f) = en'.at (.fld m f) := rfl
        rw [e]
        generalize en'.at (.fld m f) = s at y2 hno
        cases s with
        | no => trivial
        | sh d => exact y2
        | ow d => exact absurd rfl (hno d)
        | io d => exact ⟨y2.1, y2.2.1, cc y2.2.2⟩
  · cases x with
    | loc i =>
      have hx : ((outS io ds outs).getD i .no).own = true := hx
      rcases at1 i with z | ⟨a, d, b, c⟩ | ⟨a, o, b, c⟩
      · rw [z] at hx; cases hx
      · rw [c] at hx; cases hx
      · rw [b]; rfl
    | fld m f => exact hx
  · cases y with
    | loc i =>
      have hy : ((outS io ds outs).getD i .no).own = true := hy
      rcases at1 i with z | ⟨a, d, b, c⟩ | ⟨a, o, b, c⟩
      · rw [z] at hy; cases hy
      · rw [c] at hy; cases hy
      · rw [b]; rfl
    | fld m f => exact hy
end
/-- what a def's context must know of the defs that it calls -/
theorem fnG_e {C : CT} {T : Tab} {Φ : Nat → FnSem} {F : Nat} {G : Gb} {P : Program} {w : World} {K : PySem.W.Frag} {mg : Str → Option Value} {base : Heap} {k m1 m2 n : Nat} {fa : Addr} {x qual : Str} {st : Stmt} {fd : FuncData} {N ps : List Str} {vis : List Nat} {io : List Bool} {body : List IS}
    (Fn : L2.Fun K x qual st fa fd) (S : FnScope N ps (defScope st)) (hio : io.length = ps.length) (hn : N.length = ps.length + n) (hG : G.K = K)
    (hvis : (vis.all fun i => match N[i]? with | some x => visB (defScope st) x | none => true) = true) (hdbg : N.all noDbg = true)
    (chk : ckSs (ckSt C m1 m2 ⟨N, defScope st, vis, none⟩) (defBody st) body = true) (hw : (wrSs body).all (fun i => match io[i]? with | some true => false | _ => true) = true)
    (bl : ∀ x ∈ bnames, mg x = none) (cn : ∀ x d, C.cn x = some d → ∃ u v, mg x = some u ∧ RelV v u ∧ ∀ A U, Dat G A U d v)
    (sm : ∃ o, base.get? sysModules = some o)
    (fn : ∀ f ds obs r, Φ f ds obs = some r → ∃ fa fd ps, mg (C.fn f) = some (.ref fa) ∧ PySem.W.keepIn K (.ref fa) = true ∧ Binds K fd ps [] ∧ FnG P w K mg base k fa fd ps (spF G (T.io f) (Φ f))) :
    FnG P w K mg base (k + 1) fa fd ps (spF G io (fnE T Φ F io n body)) := by
  refine fnG_of Fn S (fun vs H Q E ⟨W, ds, obs, r, _, _, _, hl, _⟩ => hl.trans hio) fun cdv A outer s H vs Q hr hga hsp => ?_
  obtain ⟨W, ds, obs, r, e1, ok, rp, hl, hsem, kq⟩ := hsp
  subst e1
  let X : Cx := (cxOf CX0 P w K mg base N qual (defScope st) fa cdv A outer s W.H E0).nox
  have hX : Hd C T Φ G X := ⟨hG, rfl, S.nd, by have := hr.un; show A.units + 3 + 70 < cLine; have h2 : (A.deeper (envOfC qual (defScope st) s.heap.objs.size fa cdv)).units = A.units + 3 := rfl; omega, hga, bl, fun f ds obs r h => by
    obtain ⟨fa', fd', ps', z1, z2, z3, z4⟩ := fn f ds obs r h
    exact ⟨fa', fd', ps', k, z1, z2, z3, z4, hr⟩, cn, sm⟩
  have hS : SOkF X ⟨N, defScope st, vis, none⟩ := ⟨⟨rfl, rfl, fun i y hi hy => by
    have := List.all_eq_true.mp hvis i hi
    rw [show N[i]? = some y from hy] at this
    exact vis_of this, fun y hy => List.all_eq_true.mp hdbg y hy, fun _ => rfl⟩, S.kind, .never⟩
  unfold fnE at hsem
  have hWB : (W.atB fun p => ∃ o, W.H p = some o).Ok := ⟨ok.sub, ok.own, fun p h => h⟩
  have hstart : L2.start N vs = vs.map some ++ List.replicate n none := by
    unfold L2.start
    have : N.length - vs.length = n := by omega
    rw [this]
  have rp0 := rp.start (n := n)
  have hwio : ∀ i, io[i]? = some true → i ∉ wrSs body := fun i hi hm => by
    have := List.all_eq_true.mp hw i hm
    rw [hi] at this; cases this
  have toW : ∀ {W'}, Step (W.atB fun p => ∃ o, W.H p = some o) W' → W'.Ok → Step W (W'.atB W.B) ∧ (W'.atB W.B).Ok := fun {W'} s o => ⟨⟨rfl, s.U, s.H, s.K, s.N, s.A⟩, ⟨o.sub, o.own, fun p h => by
    obtain ⟨u, z⟩ := ok.bas p h
    exact s.K p u z⟩⟩
  cases hb : evSs T Φ F body ⟨parS io ds ++ List.replicate n .no, obs⟩ with
  | none => rw [hb] at hsem; cases hsem
  | some pp =>
    obtain ⟨fl, en'⟩ := pp
    rw [hb] at hsem
    have main := snd_ss hX (snd_st hX hS m1 m2) chk hb
    refine ⟨tS G (wrSs body) ⟨parS io ds ++ List.replicate n .no, obs⟩ fl en', main.nox, ?_⟩
    rw [hstart]
    refine ⟨W.atB fun p => ∃ o, W.H p = some o, rfl, hWB, rp0, fun σ' W' st' ok' rp' oa l' => ?_⟩
    obtain ⟨st2, ok2⟩ := toW st' ok'
    cases fl with
    | bk => cases hsem
    | ct => cases hsem
    | nx =>
      simp only at hsem
      cases hout : outsOf io en'.loc with
      | none => rw [hout] at hsem; cases hsem
      | some outs =>
        rw [hout] at hsem
        cases hsem
        exact kq .non (W'.atB W.B) st2 ok2 (rp.finish st' hl rp' oa hwio hout) Dat.non
    | rt d fr =>
      simp only at hsem
      cases hout : outsOf io en'.loc with
      | none => rw [hout] at hsem; cases hsem
      | some outs =>
        rw [hout] at hsem
        cases hsem
        intro v hv
        refine kq v (W'.atB W.B) st2 ok2 (rp.finish st' hl rp' oa hwio hout) ?_
        cases fr with
        | false => exact hv
        | true =>
          obtain ⟨p, z1, z2, z3, z4, z5⟩ := hv
          refine ⟨p, z1, ?_, z3, z4, by cases d <;> exact z5⟩
          cases q : W.H p with
          | none => rfl
          | some o => exact absurd (show W'.B p by rw [st'.B]; exact ⟨o, q⟩) z2
end Py
/-! The end of a law: the def's answer is the row's. -/
namespace Py
open PySem PySem.Spec PyProof.Rows L2
/-- the world at the law's entry -/
def Wd.first (H : Hp) : Wd := ⟨fun _ => False, H, fun _ => False, [], H⟩
theorem Wd.first_ok (H : Hp) : (Wd.first H).Ok := ⟨fun _ _ h => ⟨h, id⟩, fun _ h => h.elim, fun _ h => h.elim⟩
theorem rep_first {G : Gb} {H : Hp} {a : Addr} {ns : List Int} (h : SqL G.K H a (ns.map V.int)) : Rep G (Wd.first H) ([V.ref a].map some) ⟨parS [false] [.fz (ns.map .int)], []⟩ := by
  refine ⟨rfl, rfl, List.Pairwise.nil, fun m ob e => (by cases m <;> cases e), fun m f d e => ?_, fun _ => 0, fun x => ?_, fun x y hx hy e => ?_⟩
  · have e : Slot.no = .ow d := e; cases e
  · cases x with
    | loc i =>
      cases i with
      | zero => exact .inr ⟨.ref a, rfl, .fz h (dat_ints ns)⟩
      | succ i => exact .inl (by show List.getD [_] (i + 1) Slot.no = _; simp)
    | fld m f => exact .inl rfl
  · exfalso
    cases x with
    | loc i =>
      cases i with
      | zero => cases hx
      | succ i => simp [Stt.at, parS, Slot.own] at hx
    | fld m f => cases hx
theorem law_spF {G : Gb} {H : Hp} {a : Addr} {ns : List Int} {sem : FnSem} {r : Ret} (h : SqL G.K H a (ns.map V.int)) (hs : sem [.fz (ns.map .int)] [] = some r) (hr : r.d = .bl true) :
    spF G [false] sem [.ref a] H (fun v _ => v = .bl true) E0 := by
  refine ⟨Wd.first H, _, _, r, rfl, Wd.first_ok H, rep_first h, rfl, hs, fun v W' _ _ _ hv => ?_⟩
  rw [hr] at hv
  cases hf : r.fr with
  | false => rw [hf] at hv; cases hv; rfl
  | true => rw [hf] at hv; obtain ⟨p, _, _, _, _, z⟩ := hv; exact z.elim
end Py
/-! The end of a law: the def's answer is the row's. -/
namespace Py
open PySem PySem.Spec PyProof.Rows L2
section
variable {P : Program} {w : World} {K : PySem.W.Frag} {mg mb : Str → Option Value} {k : Nat} {fa a : Addr} {fd : FuncData} {x : Str} {s₁ : Shared} {vs : List Value} {ns : List Int}
/-- what the script's place tells when it is no object of the module -/
noncomputable def scr (a : Addr) (vs : List Value) (ns : List Int) : Hp := fun b => if b = a then some (.frz { cls := .type "list", data := .seq vs.toArray } (.lst (ns.map V.int))) else none
theorem scr_at : scr a vs ns a = some (.frz { cls := .type "list", data := .seq vs.toArray } (.lst (ns.map V.int))) := if_pos rfl
theorem scr_of {b : Addr} {u : HO} (h : scr a vs ns b = some u) : b = a ∧ u = .frz { cls := .type "list", data := .seq vs.toArray } (.lst (ns.map V.int)) := by
  unfold scr at h
  split at h
  · rename_i e; cases h; exact ⟨e, rfl⟩
  · cases h
theorem law_at {H : Hp}
    (KX : K.In s₁.heap) (hns : s₁.heap.Ns mainGlobals mg) (hb : s₁.heap.Ns builtinsNs mb) (hbb : ∀ x : Str, x ≠ "__name__" → mb x = bootBuiltins x) (hlim : s₁.heap.NoLimit) (hg : s₁.gens = #[])
    (kn : ∀ b o, K.lookup b = some o → H b = none) (frz : ∀ b u, H b = some u → ∃ o ys, u = .frz o (.lst ys) ∧ s₁.heap.get? b = some o) (hok : HOk P w H s₁.heap)
    (hsm : (∃ o, s₁.heap.get? sysModules = some o) ∧ H sysModules = none)
    (hr : Room k callerA) {sp : Sp} (F : ∀ base : Heap, K.In base → base.Ns mainGlobals mg → (∃ o, base.get? sysModules = some o) → FnG P w K mg base k fa fd [x] sp) (hbind : ∀ (s : Shared) (u : Value), BindsTo s fd ⟨[u], []⟩ [(x, u)])
    (hsp : sp [.ref a] H (fun v _ => v = .bl true) E0) (seq : ∀ {b : Addr} {o : Obj} {es : Array DictEntry} {ep : Nat}, s₁.heap.get? b = some o → o.data = .dict es ep → H b = none) :
    codeAny (model P w) callerA (.call (.ref fa) ⟨[.ref a], []⟩) (fun r s' => r = .ok (.ret (.bool true)) ∧ OldK s₁.heap s'.heap ∧ s'.os = s₁.os ∧ AllBare s'.gens) s₁ := by
  have up : ∀ {b : Addr} {m : Str → Option Value}, s₁.heap.Ns b m → (hidT s₁.heap H).Ns b m := fun ⟨o, es, ep, e, d, r⟩ => ⟨o, es, ep, hidT_get e (seq e d), d, r⟩
  have Kb : K.In (hidT s₁.heap H) := fun b o e => hidT_get (KX b o e) (kn b o e)
  obtain ⟨mc, c1, c2⟩ := hlim
  have M : Mod K mg (hidT s₁.heap H) := ⟨Kb, up hns, ⟨mb, up hb, hbb⟩, ⟨mc, up c1, c2⟩⟩
  have out : ∀ b ∈ ([] : List Addr), False := fun b hb => by cases hb
  have e0 : Env0 P w K mg (hidT s₁.heap H) callerA [] s₁ H := ⟨rfl, M, fun b o e => of_hidT e, Nat.le_of_eq (hidT_size _ _), trivial, fun b hb => (out b hb).elim, hok, .of_eq hg⟩
  have run := (F _ Kb (up hns) (by obtain ⟨⟨o, e⟩, n⟩ := hsm; exact ⟨o, hidT_get e n⟩)).run callerA [] s₁ H ⟨[.ref a], []⟩ [.ref a] [.ref a] _ hr rfl e0 (hbind s₁ (.ref a)) (.cons rfl .nil) hsp
  refine codeAny_mono run fun r s' h => ?_
  match r, h with
  | .error e, h => exact h.elim
  | .ok .next, h => exact h.elim
  | .ok .brk, h => exact h.elim
  | .ok .cont, h => exact h.elim
  | .ok (.ret u), ⟨v, H', os, bare, un, hok', rv, q⟩ =>
    have q : v = .bl true := q
    subst q
    have rv : u = Value.bool true := rv
    subst rv
    refine ⟨rfl, OldK.of_keep fun b o e => ?_, os, bare⟩
    cases hb : H b with
    | none => exact un.keep b o e hb (fun z => out b z) (by simp)
    | some u =>
      obtain ⟨ob, ys, rfl, e2⟩ := frz b u hb
      rw [e] at e2
      cases e2
      exact (hok' b _ (un.frzs b _ _ hb)).1
/-- the law's def answers True: the row's call does -/
theorem law_callG {G : Gb} {sem : FnSem} {r : Ret}
    (KX : K.In s₁.heap) (hns : s₁.heap.Ns mainGlobals mg) (hb : s₁.heap.Ns builtinsNs mb) (hbb : ∀ x : Str, x ≠ "__name__" → mb x = bootBuiltins x) (hlim : s₁.heap.NoLimit) (hg : s₁.gens = #[])
    (ha : s₁.heap.get? a = some { cls := .type "list", data := .seq vs.toArray }) (hi : IntsAre vs ns) (hl : ns.length ≤ sizeLine) (hr : Room k callerA) (hG : G.K = K) (hsm : ∃ o es ep, s₁.heap.get? sysModules = some o ∧ o.data = .dict es ep)
    (F : ∀ base : Heap, K.In base → base.Ns mainGlobals mg → (∃ o, base.get? sysModules = some o) → FnG P w K mg base k fa fd [x] (spF G [false] sem)) (hbind : ∀ (s : Shared) (u : Value), BindsTo s fd ⟨[u], []⟩ [(x, u)])
    (hs : sem [.fz (ns.map .int)] [] = some r) (hd : r.d = .bl true) :
    codeAny (model P w) callerA (.call (.ref fa) ⟨[.ref a], []⟩) (fun r s' => r = .ok (.ret (.bool true)) ∧ OldK s₁.heap s'.heap ∧ s'.os = s₁.os ∧ AllBare s'.gens) s₁ := by
  have rv := vals_ints hi
  have lenV := hi.length
  cases hk : K.lookup a with
  | some o =>
    have e := KX a o hk
    rw [ha] at e
    cases e
    refine law_at (H := fun _ => none) KX hns hb hbb hlim hg (fun _ _ _ => rfl) (fun b u z => by cases z) (fun b u z => by have z' : (none : Option HO) = some u := z; cases z') (by obtain ⟨o, _, _, e, _⟩ := hsm; exact ⟨⟨o, e⟩, rfl⟩) hr F hbind (law_spF ?_ hs hd) fun _ _ => rfl
    exact .inr ⟨_, vs.toArray, _, by rw [hG]; exact hk, rfl, rfl, rfl, by rw [List.size_toArray, lenV]; exact hl, by simpa using rv⟩
  | none =>
    refine law_at (H := scr a vs ns) KX hns hb hbb hlim hg (fun b o z => ?_) (fun b u z => ?_) (fun b u z => ?_) (by
      obtain ⟨o, es, ep, e, ed⟩ := hsm
      refine ⟨⟨o, e⟩, ?_⟩
      cases q : scr a vs ns sysModules with
      | none => rfl
      | some u =>
        obtain ⟨z, _⟩ := scr_of q
        rw [z, ha] at e
        cases e; cases ed) hr F hbind (law_spF (.inl (.inr ⟨_, scr_at⟩)) hs hd) fun {b o es ep} z d => ?_
    · cases q : scr a vs ns b with
      | none => rfl
      | some u => obtain ⟨rfl, _⟩ := scr_of q; rw [hk] at z; cases z
    · obtain ⟨rfl, rfl⟩ := scr_of z
      exact ⟨_, _, rfl, ha⟩
    · obtain ⟨rfl, rfl⟩ := scr_of z
      exact ⟨ha, by rw [List.length_map]; exact hl, vs, _, rv, ha⟩
    · cases q : scr a vs ns b with
      | none => rfl
      | some u =>
        obtain ⟨rfl, _⟩ := scr_of q
        rw [ha] at z
        cases z
        have d' : Data.seq vs.toArray _ = Data.dict es ep := d
        cases d'
end
/-- the goal that the head leaves -/
theorem walk_ofG {l : PySem.W.OpenLaw} {n k : Nat} {q : Program} {loose : List Str} {XP : (Str → Option Value) → Heap → Prop} {YP : World → Heap → Prop} {d : DefRec} {K : Params → PySem.W.Frag} {sem : World → FnSem} {x : Str}
    (hn : l.most = some n) (hn2 : n ≤ sizeLine) (hdf : d.params.defaults = []) (hr : Room k callerA) (hi : importsNone q = true)
    (hY : ∀ (w : World) (h : Heap), YP w h → (K w.params).In h)
    (F : ∀ (w : World) (mg : Str → Option Value) (fa : Addr) (h : Heap), (K w.params).In h → h.Ns mainGlobals mg → mg d.name = some (.ref fa) →
      ∃ fd : FuncData, (∀ (s : Shared) (u : Value), BindsTo s fd ⟨[u], []⟩ [(x, u)]) ∧
        ∃ G : Gb, G.K = K w.params ∧ ∀ base : Heap, (K w.params).In base → base.Ns mainGlobals mg → (∃ o, base.get? sysModules = some o) → FnG l.prog w (K w.params) mg base k fa fd [x] (spF G [false] (sem w)))
    (hsem : ∀ (w : World) (ns : List Int), ns.length ≤ n → ∃ r, sem w [.fz (ns.map .int)] [] = some r ∧ r.d = .bl true) :
    PySem.W.WalkO q loose XP YP l.row.toRowW d [] (fun f vs => PySem.call f vs) := by
  refine Att.attach_call hn hdf fun w s₀ s₁ mg mb fa o pm cd doc a vs ns Gd Y ho hd hcd hmg hobj hints hlen hg => ?_
  have KX := hY w _ Y
  obtain ⟨fd, hb, G, hG, hF⟩ := F w mg fa _ KX Gd.T.g hmg
  obtain ⟨r, h1, h2⟩ := hsem w ns hlen
  obtain ⟨mm, ⟨o, es, ep, e1, e2, _⟩, _⟩ := (Gd.T.seer hi).mods
  exact law_callG KX Gd.T.g Gd.T.b Gd.T.builtins Gd.T.nolimit hg hobj hints (Nat.le_trans hlen hn2) hr hG ⟨o, es, ep, e1, e2⟩ hF hb h1 h2
end Py
/-! All the defs of a law at once, level by level. -/
namespace Py
open PySem PySem.Spec PyProof.Rows L2
open Classical
/-- a def as the evaluator reads it -/
structure Dfn where
  io : List Bool
  n : Nat
  body : List IS
/-- a def as it is written -/
structure Wrt where
  x : Str
  st : Stmt
  N : List Str
  ps : List Str
  vis : List Nat
noncomputable def Phi (T : Tab) (F : Nat) (dfs : Nat → Option Dfn) : Nat → Nat → FnSem
  | 0 => fun _ _ _ => none
  | k + 1 => fun f => match dfs f with
    | some d => fnE T (Phi T F dfs k) F d.io d.n d.body
    | none => fun _ _ => none
/-- what the kernel checks of a def -/
structure DefOk (C : CT) (m1 m2 : Nat) (d : Dfn) (t : Wrt) : Prop where
  sc : FnScope t.N t.ps (defScope t.st)
  hio : d.io.length = t.ps.length
  hn : t.N.length = t.ps.length + d.n
  vis : (t.vis.all fun i => match t.N[i]? with | some x => visB (defScope t.st) x | none => true) = true
  dbg : t.N.all noDbg = true
  chk : ckSs (ckSt C m1 m2 ⟨t.N, defScope t.st, t.vis, none⟩) (defBody t.st) d.body = true
  wr : (wrSs d.body).all (fun i => match d.io[i]? with | some true => false | _ => true) = true
section
variable {C : CT} {T : Tab} {F : Nat} {G : Gb} {P : Program} {w : World} {K : PySem.W.Frag} {mg : Str → Option Value} {base : Heap} {dfs : Nat → Option Dfn} {wrt : Nat → Wrt} {fa : Nat → Addr} {fd : Nat → FuncData}
theorem fnG_all (hG : G.K = K) (bl : ∀ x ∈ bnames, mg x = none) (cn : ∀ x d, C.cn x = some d → ∃ u v, mg x = some u ∧ RelV v u ∧ ∀ A U, Dat G A U d v)
    (sm : ∃ o, base.get? sysModules = some o)
    (ok : ∀ f d, dfs f = some d → T.io f = d.io ∧ C.fn f = (wrt f).x ∧ (∃ m1 m2, DefOk C m1 m2 d (wrt f)) ∧ mg (wrt f).x = some (.ref (fa f)) ∧ L2.Fun K (wrt f).x (wrt f).x (wrt f).st (fa f) (fd f) ∧ Binds K (fd f) (wrt f).ps []) :
    ∀ k f d, dfs f = some d → FnG P w K mg base k (fa f) (fd f) (wrt f).ps (spF G d.io (Phi T F dfs k f)) := by
  intro k
  induction k with
  | zero =>
    intro f d e
    obtain ⟨_, _, ⟨m1, m2, h⟩, _⟩ := ok f d e
    refine ⟨fun vs H Q E ⟨W, ds, obs, r, _, _, _, hl, _⟩ => hl.trans h.hio, fun A outer s H args us vs Q _ _ _ _ _ ⟨W, ds, obs, r, _, _, _, _, hs, _⟩ => ?_⟩
    cases hs
  | succ k ih =>
    intro f d e
    obtain ⟨_, _, ⟨m1, m2, h⟩, _, Fn, _⟩ := ok f d e
    have e2 : Phi T F dfs (k + 1) f = fnE T (Phi T F dfs k) F d.io d.n d.body := by
      show (match dfs f with | some d => fnE T (Phi T F dfs k) F d.io d.n d.body | none => fun _ _ => none) = _
      rw [e]
    rw [e2]
    refine fnG_e (C := C) (m1 := m1) (m2 := m2) Fn h.sc h.hio h.hn hG h.vis h.dbg h.chk h.wr bl cn sm fun g ds obs r hr => ?_
    cases q : dfs g with
    | none =>
      exfalso
      cases k with
      | zero => cases hr
      | succ k =>
        have : Phi T F dfs (k + 1) g = fun _ _ => none := by
          show (match dfs g with | some d => fnE T (Phi T F dfs k) F d.io d.n d.body | none => fun _ _ => none) = _
          rw [q]
        rw [this] at hr
        cases hr
    | some d' =>
      obtain ⟨z1, z2, _, z4, z5, z6⟩ := ok g d' q
      exact ⟨fa g, fd g, (wrt g).ps, by rw [z2]; exact z4, z5.kp, z6, by rw [z1]; exact ih g d' q⟩
end
end Py
/-! Evaluation by continuations. -/
namespace Py
open PySem PySem.Spec PyProof.Rows L2
/-- holds a continuation fast, so that it is not looked at before its turn -/
structure Tk {α : Type} (Q : α → Prop) : Type where
structure Tk2 (A B : Prop) : Type where
/-- there is a value, and Q of it -/
def Opt {α : Type} (o : Option α) (Q : α → Prop) (t : Tk Q := Tk.mk) : Prop := match o with
  | some a => Q a
  | none => False
theorem Opt_some {α : Type} (a : α) (Q : α → Prop) : Opt (some a) Q = Q a := rfl
theorem Opt_none {α : Type} (Q : α → Prop) : Opt (none : Option α) Q = False := rfl
theorem Opt_ext {α : Type} {o : Option α} {Q Q' : α → Prop} (h : ∀ a, Q a = Q' a) : Opt o Q = Opt o Q' := by
  have : Q = Q' := funext h
  subst this
  rfl
theorem Opt_mono {α : Type} {o : Option α} {P Q : α → Prop} (h : Opt o P) (k : ∀ a, P a → Q a) : Opt o Q := by
  cases o with
  | none => exact h
  | some a => exact k a h
theorem Opt_ex {α : Type} {o : Option α} {P : α → Prop} (h : Opt o P) : ∃ a, o = some a ∧ P a := by
  cases o with
  | none => exact h.elim
  | some a => exact ⟨a, rfl, h⟩
theorem Opt_of {α : Type} {o : Option α} {P : α → Prop} {a : α} (h : o = some a) (k : P a) : Opt o P := by rw [h]; exact k
theorem Opt_ite {α : Type} {c : Prop} [Decidable c] {a b : Option α} {Q : α → Prop} : Opt (if c then a else b) Q = if c then Opt a Q else Opt b Q := by split <;> rfl
/-- by cases of a truth value -/
def iteP (b : Bool) (A B : Prop) (t : Tk2 A B := Tk2.mk) : Prop := if b = true then A else B
theorem iteP_t {A B : Prop} : iteP true A B = A := rfl
theorem iteP_f {A B : Prop} : iteP false A B = B := rfl
theorem iteP_split {b : Bool} {A B : Prop} (h1 : b = true → A) (h2 : b = false → B) : iteP b A B := by
  cases b with
  | true => exact h1 rfl
  | false => exact h2 rfl
/-- by parts -/
def kP {α β : Type} (f : α → β → Prop) : α × β → Prop := fun p => f p.1 p.2
theorem kP_mk {α β : Type} {f : α → β → Prop} {a : α} {b : β} : kP f (a, b) = f a b := rfl
def kT {α β γ : Type} (f : α → β → γ → Prop) : α × β × γ → Prop := fun p => f p.1 p.2.1 p.2.2
theorem kT_mk {α β γ : Type} {f : α → β → γ → Prop} {a : α} {b : β} {c : γ} : kT f (a, b, c) = f a b c := rfl
def kR (f : D → Bool → Stt → Prop) : R → Prop := fun r => f r.d r.fr r.en
theorem kR_mk {f : D → Bool → Stt → Prop} {d fr en} : kR f ⟨d, fr, en⟩ = f d fr en := rfl
def kRet (f : D → Bool → List D → List Ob → Prop) : Ret → Prop := fun r => f r.d r.fr r.outs r.obs
theorem kRet_mk {f : D → Bool → List D → List Ob → Prop} {d fr outs obs} : kRet f ⟨d, fr, outs, obs⟩ = f d fr outs obs := rfl
/-- a state, to be looked at before it is handed on -/
def nrm {α : Type} (en : α) : Option α := some en
theorem nrm_some {α : Type} (en : α) : nrm en = some en := rfl
theorem Opt_nrm {α : Type} (en : α) (Q : α → Prop) : Opt (nrm en) Q = Q en := rfl
theorem Opt_map {α β : Type} {o : Option α} {f : α → β} {Q : β → Prop} : Opt (o.map f) Q = Opt o fun a => Q (f a) := by cases o <;> rfl
section
variable {T : Tab} {Φ : Nat → FnSem} {F : Nat} {en : Stt} {Q : R → Prop} {S : Fl × Stt → Prop}
def locK (en : Stt) (i : Nat) (Q : R → Prop) (s : Slot) : Prop := match s with
  | .sh d => Q ⟨d, false, en⟩
  | .ow d => Opt (nrm (en.set i (.sh d))) fun e => Q ⟨d, false, e⟩
  | _ => False
@[simp] theorem locK_sh {i d} : locK en i Q (.sh d) = Q ⟨d, false, en⟩ := rfl
@[simp] theorem locK_ow {i d} : locK en i Q (.ow d) = Opt (nrm (en.set i (.sh d))) fun e => Q ⟨d, false, e⟩ := rfl
theorem E_loc {i} : Opt (evE T Φ (.loc i) en) Q = Opt en.loc[i]? (locK en i Q) := by
  conv => lhs; unfold evE
  cases en.loc[i]? with
  | none => rfl
  | some s => cases s <;> rfl
theorem E_cst {d} : Opt (evE T Φ (.cst d) en) Q = Q ⟨d, false, en⟩ := by unfold evE; rfl
theorem E_tup {es} : Opt (evE T Φ (.tup es) en) Q = Opt (evL T Φ es en) (kP fun ds en' => ds.length ≤ 1000 ∧ Q ⟨.tup ds, false, en'⟩) := by
  conv => lhs; unfold evE
  cases evL T Φ es en with
  | none => rfl
  | some p =>
    simp only [kP, kT, kR, kRet, Opt_nrm, Opt_some, Opt_ite]
    by_cases c : p.1.length ≤ 1000 <;> simp [c, Opt, kP]
theorem E_lst {es} : Opt (evE T Φ (.lst es) en) Q = Opt (evL T Φ es en) (kP fun ds en' => ds.length ≤ 1000 ∧ Q ⟨.lst ds, true, en'⟩) := by
  conv => lhs; unfold evE
  cases evL T Φ es en with
  | none => rfl
  | some p =>
    simp only [kP, kT, kR, kRet, Opt_nrm, Opt_some, Opt_ite]
    by_cases c : p.1.length ≤ 1000 <;> simp [c, Opt, kP]
/-- an argument: where it stands -/
def A2 (T : Tab) (Φ : Nat → FnSem) (a b : IE) (en : Stt) (K : D → D → Stt → Prop) : Prop :=
  Opt (argOf a (fun en => evE T Φ a en) en) (kP fun x e1 => Opt (argOf b (fun en => evE T Φ b en) e1) (kP fun y e2 => Opt (x.dat e2) fun d => Opt (y.dat e2) fun e => K d e e2))
theorem E_bin {o a b} : Opt (evE T Φ (.bin o a b) en) Q = A2 T Φ a b en fun d e en2 => Opt (binD o d e) (kP fun r fr => Q ⟨r, fr, en2⟩) := by
  conv => lhs; unfold evE
  unfold A2
  cases argOf a (fun en => evE T Φ a en) en with
  | none => rfl
  | some p =>
    obtain ⟨x, en1⟩ := p
    simp only [kP, kT, kR, kRet, Opt_nrm, Opt_some]
    cases argOf b (fun en => evE T Φ b en) en1 with
    | none => rfl
    | some q =>
      obtain ⟨y, en2⟩ := q
      simp only [kP, kT, kR, kRet, Opt_nrm, Opt_some]
      cases x.dat en2 with
      | none => rfl
      | some d =>
        cases y.dat en2 with
        | none => rfl
        | some e =>
          simp only [kP, kT, kR, kRet, Opt_nrm, Opt_some]
          cases binD o d e with
          | none => rfl
          | some r => rfl
theorem E_cmp {o a b} : Opt (evE T Φ (.cmp o a b) en) Q = A2 T Φ a b en fun d e en2 => Opt (cmpX o d e) fun r => Q ⟨.bl r, false, en2⟩ := by
  conv => lhs; unfold evE
  unfold A2
  cases argOf a (fun en => evE T Φ a en) en with
  | none => rfl
  | some p =>
    obtain ⟨x, en1⟩ := p
    simp only [kP, kT, kR, kRet, Opt_nrm, Opt_some]
    cases argOf b (fun en => evE T Φ b en) en1 with
    | none => rfl
    | some q =>
      obtain ⟨y, en2⟩ := q
      simp only [kP, kT, kR, kRet, Opt_nrm, Opt_some]
      cases x.dat en2 with
      | none => rfl
      | some d =>
        cases y.dat en2 with
        | none => rfl
        | some e =>
          simp only [kP, kT, kR, kRet, Opt_nrm, Opt_some]
          cases cmpX o d e with
          | none => rfl
          | some r => rfl
theorem E_idx {a b} : Opt (evE T Φ (.idx a b) en) Q = A2 T Φ a b en fun d e en2 => Opt (idxD d e) fun r => Q ⟨r, false, en2⟩ := by
  conv => lhs; unfold evE
  unfold A2
  cases argOf a (fun en => evE T Φ a en) en with
  | none => rfl
  | some p =>
    obtain ⟨x, en1⟩ := p
    simp only [kP, kT, kR, kRet, Opt_nrm, Opt_some]
    cases argOf b (fun en => evE T Φ b en) en1 with
    | none => rfl
    | some q =>
      obtain ⟨y, en2⟩ := q
      simp only [kP, kT, kR, kRet, Opt_nrm, Opt_some]
      cases x.dat en2 with
      | none => rfl
      | some d =>
        cases y.dat en2 with
        | none => rfl
        | some e =>
          simp only [kP, kT, kR, kRet, Opt_nrm, Opt_some]
          cases idxD d e with
          | none => rfl
          | some r => rfl
theorem E_chn {o p a b c} : Opt (evE T Φ (.chn o p a b c) en) Q =
    Opt (argOf a (fun en => evE T Φ a en) en) (kP fun x e1 => Opt (argOf b (fun en => evE T Φ b en) e1) (kP fun y e2 => Opt (x.dat e2) fun d => Opt (y.dat e2) fun e => Opt (cmpX o d e) fun r =>
      iteP r (Opt (argOf c (fun en => evE T Φ c en) e2) (kP fun z e3 => Opt (y.dat e3) fun e' => Opt (z.dat e3) fun g => Opt (cmpX p e' g) fun r2 => Q ⟨.bl r2, false, e3⟩)) (Q ⟨.bl false, false, e2⟩))) := by
  conv => lhs; unfold evE
  cases argOf a (fun en => evE T Φ a en) en with
  | none => rfl
  | some p1 =>
    obtain ⟨x, en1⟩ := p1
    simp only [kP, kT, kR, kRet, Opt_nrm, Opt_some]
    cases argOf b (fun en => evE T Φ b en) en1 with
    | none => rfl
    | some q =>
      obtain ⟨y, en2⟩ := q
      simp only [kP, kT, kR, kRet, Opt_nrm, Opt_some]
      cases x.dat en2 with
      | none => rfl
      | some d =>
        cases y.dat en2 with
        | none => rfl
        | some e =>
          simp only [kP, kT, kR, kRet, Opt_nrm, Opt_some]
          cases cmpX o d e with
          | none => rfl
          | some r =>
            cases r with
            | false => rfl
            | true =>
              simp only [kP, kT, kR, kRet, Opt_nrm, Opt_some, iteP_t]
              cases argOf c (fun en => evE T Φ c en) en2 with
              | none => rfl
              | some z =>
                obtain ⟨z, en3⟩ := z
                simp only [kP, kT, kR, kRet, Opt_nrm, Opt_some]
                cases y.dat en3 with
                | none => rfl
                | some e' =>
                  cases z.dat en3 with
                  | none => rfl
                  | some g =>
                    simp only [kP, kT, kR, kRet, Opt_nrm, Opt_some]
                    cases cmpX p e' g with
                    | none => rfl
                    | some r2 => rfl
/-- a truth value -/
def blK (K : Bool → Stt → Prop) (r : R) : Prop := match r with
  | ⟨.bl b, _, en⟩ => K b en
  | _ => False
@[simp] theorem blK_bl {K b fr} : blK K ⟨.bl b, fr, en⟩ = K b en := rfl
theorem E_not {a} : Opt (evE T Φ (.not a) en) Q = Opt (evE T Φ a en) (blK fun b en' => Q ⟨.bl (!b), false, en'⟩) := by
  conv => lhs; unfold evE
  cases evE T Φ a en with
  | none => rfl
  | some r => obtain ⟨d, fr, en'⟩ := r; cases d <;> rfl
theorem E_and {a b} : Opt (evE T Φ (.and a b) en) Q = Opt (evE T Φ a en) (blK fun c en' => iteP c (Opt (evE T Φ b en') Q) (Q ⟨.bl false, false, en'⟩)) := by
  conv => lhs; unfold evE
  cases evE T Φ a en with
  | none => rfl
  | some r =>
    obtain ⟨d, fr, en'⟩ := r
    cases d <;> first | rfl | skip
    rename_i b; cases b <;> simp [Opt, blK, iteP, kP, kR, nrm]
theorem E_or {a b} : Opt (evE T Φ (.or a b) en) Q = Opt (evE T Φ a en) (blK fun c en' => iteP c (Q ⟨.bl true, false, en'⟩) (Opt (evE T Φ b en') Q)) := by
  conv => lhs; unfold evE
  cases evE T Φ a en with
  | none => rfl
  | some r =>
    obtain ⟨d, fr, en'⟩ := r
    cases d <;> first | rfl | skip
    rename_i b; cases b <;> simp [Opt, blK, iteP, kP, kR, nrm]
theorem E_ite {c a b} : Opt (evE T Φ (.ite c a b) en) Q = Opt (evE T Φ c en) (blK fun z en' => iteP z (Opt (evE T Φ a en') Q) (Opt (evE T Φ b en') Q)) := by
  conv => lhs; unfold evE
  cases evE T Φ c en with
  | none => rfl
  | some r =>
    obtain ⟨d, fr, en'⟩ := r
    cases d <;> first | rfl | skip
    rename_i b; cases b <;> simp [Opt, blK, iteP, kP, kR, nrm]
def intK (K : Int → Stt → Prop) (r : R) : Prop := match r with
  | ⟨.int b, _, en⟩ => K b en
  | _ => False
@[simp] theorem intK_int {K b fr} : intK K ⟨.int b, fr, en⟩ = K b en := rfl
theorem E_neg {a} : Opt (evE T Φ (.neg a) en) Q = Opt (evE T Φ a en) (intK fun i en' => Q ⟨.int (-i), false, en'⟩) := by
  conv => lhs; unfold evE
  cases evE T Φ a en with
  | none => rfl
  | some r => obtain ⟨d, fr, en'⟩ := r; cases d <;> rfl
theorem E_call {f es} : Opt (evE T Φ (.call f es) en) Q = Opt (evCArgs T Φ (T.io f) (T.kp f && !(T.ob f)) es en) (kP fun avs e1 => Opt (callF T Φ f avs e1) Q) := by
  conv => lhs; unfold evE
  cases evCArgs T Φ (T.io f) (T.kp f && !(T.ob f)) es en with
  | none => rfl
  | some p => rfl
theorem callF_q {f avs} (h : T.ob f = false) : Opt (callF T Φ f avs en) Q = (((avPls avs).Nodup ∧ frN avs ≤ 1 ∧ (avPls avs).all (fun x => (en.at x).own) = true) ∧ Opt (avDats en avs) fun ds => ds.all (noO 40) = true ∧ Opt (Φ f ds []) (kRet fun d fr outs obs =>
    (noO 40 d = true ∧ outs.all (noO 40) = true ∧ (T.kp f = false ∨ keepOk ⟨d, fr, outs, obs⟩ = true)) ∧ Opt (ioC avs (T.io f) outs en) fun en' => Q ⟨d, fr, en'⟩)) := by
  unfold callF
  rw [Opt_ite]
  by_cases c : (avPls avs).Nodup ∧ frN avs ≤ 1 ∧ (avPls avs).all (fun x => (en.at x).own) = true
  · rw [if_pos c]
    apply propext
    constructor
    · intro z
      refine ⟨c, ?_⟩
      cases q : avDats en avs with
      | none => rw [q] at z; exact z.elim
      | some ds =>
        rw [q] at z
        simp only [h, Bool.false_eq_true, if_false, Opt_ite] at z
        rw [Opt_some]
        by_cases c2 : ds.all (noO 40) = true
        · rw [if_pos c2] at z
          refine ⟨c2, ?_⟩
          cases q2 : Φ f ds [] with
          | none => rw [q2] at z; exact z.elim
          | some r =>
            rw [q2] at z
            simp only [Opt_ite] at z
            rw [Opt_some]
            split at z
            · rename_i c3
              simp only [Bool.and_eq_true, Bool.or_eq_true, Bool.not_eq_true'] at c3
              refine ⟨⟨c3.1.1, c3.1.2, c3.2⟩, ?_⟩
              cases q3 : ioC avs (T.io f) r.outs en with
              | none => rw [q3] at z; exact z.elim
              | some en' => rw [q3] at z; exact z
            · exact z.elim
        · rw [if_neg c2] at z; exact z.elim
    · rintro ⟨_, z⟩
      cases q : avDats en avs with
      | none => rw [q] at z; exact z.elim
      | some ds =>
        rw [q, Opt_some] at z
        simp only [h, Bool.false_eq_true, if_false, Opt_ite]
        rw [if_pos z.1]
        have z := z.2
        cases q2 : Φ f ds [] with
        | none => rw [q2] at z; exact z.elim
        | some r =>
          rw [q2, Opt_some] at z
          obtain ⟨⟨a, b, c⟩, z⟩ := z
          simp only [Opt_ite]
          rw [if_pos (by simp only [Bool.and_eq_true, Bool.or_eq_true, Bool.not_eq_true']; exact ⟨⟨a, b⟩, c⟩)]
          cases q3 : ioC avs (T.io f) r.outs en with
          | none => rw [q3] at z; exact z.elim
          | some en' => rw [q3] at z; exact z
  · rw [if_neg c]
    apply propext
    exact ⟨fun z => z.elim, fun z => (c z.1).elim⟩
theorem E_prm {p es} (hp : p ≠ .sset) (hp2 : p ≠ .lrange) (hp3 : p ≠ .trange) : Opt (evE T Φ (.prm p es) en) Q = Opt (evArgs T Φ es en) (kP fun avs e1 => Opt (avDats e1 avs) fun ds => Opt (primX p ds) (kP fun r fr => Q ⟨r, fr, e1⟩)) := by
  have : ∀ {o : Option (List AV × Stt)}, Opt (match o with
      | some (avs, en') => match avDats en' avs with
        | some ds => match primX p ds with
          | some (r, fr) => some (⟨r, fr, en'⟩ : R)
          | none => none
        | none => none
      | none => none) Q = Opt o (kP fun avs e1 => Opt (avDats e1 avs) fun ds => Opt (primX p ds) (kP fun r fr => Q ⟨r, fr, e1⟩)) := by
    intro o
    cases o with
    | none => rfl
    | some a =>
      obtain ⟨avs, en'⟩ := a
      simp only [kP, kT, kR, kRet, Opt_nrm, Opt_some]
      cases avDats en' avs with
      | none => rfl
      | some ds =>
        simp only [kP, kT, kR, kRet, Opt_nrm, Opt_some]
        cases primX p ds with
        | none => rfl
        | some r => rfl
  rw [← this]
  conv => lhs; unfold evE
  cases p <;> first | rfl | exact absurd rfl hp | exact absurd rfl hp2 | exact absurd rfl hp3
theorem E_lrg {e} : Opt (evE T Φ (.prm .lrange [e]) en) Q = Opt (evE T Φ e en) (intK fun b e1 => (-(lim : Int) < b ∧ b < lim) ∧ Q ⟨.lst (rngL 0 b), true, e1⟩) := by
  conv => lhs; unfold evE
  simp only
  cases evE T Φ e en with
  | none => rfl
  | some r =>
    obtain ⟨d, fr, e1⟩ := r
    cases d <;> first | rfl | skip
    rename_i b
    simp only [Opt_some, intK_int]
    by_cases c : -(lim : Int) < b ∧ b < lim
    · rw [if_pos c]; simp [Opt, c]
    · rw [if_neg c]; simp only [Opt_none, c, false_and]
theorem E_trg {e} : Opt (evE T Φ (.prm .trange [e]) en) Q = Opt (evE T Φ e en) (intK fun b e1 => (-(lim : Int) < b ∧ b < lim) ∧ Q ⟨.tup (rngL 0 b), false, e1⟩) := by
  conv => lhs; unfold evE
  simp only
  cases evE T Φ e en with
  | none => rfl
  | some r =>
    obtain ⟨d, fr, e1⟩ := r
    cases d <;> first | rfl | skip
    rename_i b
    simp only [Opt_some, intK_int]
    by_cases c : -(lim : Int) < b ∧ b < lim
    · rw [if_pos c]; simp [Opt, c]
    · rw [if_neg c]; simp only [Opt_none, c, false_and]
theorem E_sset {e} : Opt (evE T Φ (.prm .sset [e]) en) Q = Opt (argOf e (fun en => evE T Φ e en) en) (kP fun x e1 => Opt (x.dat e1) fun d => Opt (ssetD d) fun r => Q ⟨r, true, e1⟩) := by
  conv => lhs; unfold evE
  simp only
  cases argOf e (fun en => evE T Φ e en) en with
  | none => rfl
  | some p =>
    obtain ⟨x, en'⟩ := p
    simp only [kP, kT, kR, kRet, Opt_nrm, Opt_some]
    cases x.dat en' with
    | none => rfl
    | some d =>
      simp only [kP, kT, kR, kRet, Opt_nrm, Opt_some]
      cases ssetD d with
      | none => rfl
      | some r => rfl
theorem E_slc {a lo hi} : Opt (evE T Φ (.slc a lo hi) en) Q = Opt (argOf a (fun en => evE T Φ a en) en) (kP fun x e1 => Opt (ptOf lo (fun en => evE T Φ lo en) e1) (kP fun l e2 => Opt (ptOf hi (fun en => evE T Φ hi en) e2) (kP fun h e3 =>
    Opt (x.dat e3) fun d => Opt (slD d l h) (kP fun r fr => Q ⟨r, fr, e3⟩)))) := by
  conv => lhs; unfold evE
  cases argOf a (fun en => evE T Φ a en) en with
  | none => rfl
  | some p =>
    obtain ⟨x, en1⟩ := p
    simp only [kP, kT, kR, kRet, Opt_nrm, Opt_some]
    cases ptOf lo (fun en => evE T Φ lo en) en1 with
    | none => rfl
    | some l =>
      obtain ⟨l, en2⟩ := l
      simp only [kP, kT, kR, kRet, Opt_nrm, Opt_some]
      cases ptOf hi (fun en => evE T Φ hi en) en2 with
      | none => rfl
      | some h =>
        obtain ⟨h, en3⟩ := h
        simp only [kP, kT, kR, kRet, Opt_nrm, Opt_some]
        cases x.dat en3 with
        | none => rfl
        | some d =>
          simp only [kP, kT, kR, kRet, Opt_nrm, Opt_some]
          cases slD d l h with
          | none => rfl
          | some r => rfl
theorem E_isi {a ts} : Opt (evE T Φ (.isi a ts) en) Q = Opt (argOf a (fun en => evE T Φ a en) en) (kP fun x e1 => Opt (x.dat e1) fun d => Opt (tysD d ts) fun bs => Q ⟨.bl (bs.any id), false, e1⟩) := by
  conv => lhs; unfold evE
  cases argOf a (fun en => evE T Φ a en) en with
  | none => rfl
  | some p =>
    obtain ⟨x, en1⟩ := p
    simp only [kP, kT, kR, kRet, Opt_nrm, Opt_some]
    cases x.dat en1 with
    | none => rfl
    | some d =>
      simp only [kP, kT, kR, kRet, Opt_nrm, Opt_some]
      cases tysD d ts with
      | none => rfl
      | some r => rfl
theorem E_mth {m o es} : Opt (evE T Φ (.mth m o es) en) Q = Opt (argOf o (fun en => evE T Φ o en) en) (kP fun x e1 => Opt (evArgs T Φ es e1) (kP fun avs e2 => Opt (x.dat e1) fun d0 => Opt (x.dat e2) fun d => Opt (avDats e2 avs) fun ds =>
    sameK d0 d = true ∧ Opt (mthF m d ds) (kP fun r fr => Q ⟨r, fr, e2⟩))) := by
  conv => lhs; unfold evE
  cases argOf o (fun en => evE T Φ o en) en with
  | none => rfl
  | some p =>
    obtain ⟨x, en1⟩ := p
    simp only [kP, kT, kR, kRet, Opt_nrm, Opt_some]
    cases evArgs T Φ es en1 with
    | none => rfl
    | some a =>
      obtain ⟨avs, en2⟩ := a
      simp only [kP, kT, kR, kRet, Opt_nrm, Opt_some]
      cases x.dat en1 with
      | none => rfl
      | some d0 =>
        cases x.dat en2 with
        | none => rfl
        | some d =>
          cases avDats en2 avs with
          | none => rfl
          | some ds =>
            simp only [kP, kT, kR, kRet, Opt_nrm, Opt_some, Opt_ite]
            by_cases c : sameK d0 d = true
            · rw [if_pos c]
              cases mthF m d ds with
              | none => simp [Opt, c, kP, kR, nrm]
              | some r => simp [Opt, c, kP, kR, nrm]
            · rw [if_neg c]
              simp [Opt, c, kP, kR, nrm]
theorem E_mut {m i es} : Opt (evE T Φ (.mut m (.loc i) es) en) Q = Opt (evL T Φ es en) (kP fun as e1 => ((en.at (.loc i)).own = true ∧ (e1.at (.loc i)).own = true) ∧ Opt (en.at (.loc i)).dat fun d0 => Opt (e1.at (.loc i)).dat fun d =>
    sameK d0 d = true ∧ Opt (mutD m d as) (kP fun d2 r => Opt (nrm (e1.set i ((e1.at (.loc i)).upd d2))) fun e => Q ⟨r, false, e⟩)) := by
  conv => lhs; unfold evE
  simp only
  cases evL T Φ es en with
  | none => rfl
  | some a =>
    obtain ⟨ds, en2⟩ := a
    simp only [kP, kT, kR, kRet, Opt_nrm, Opt_some, Opt_ite]
    by_cases c : (en.at (.loc i)).own = true ∧ (en2.at (.loc i)).own = true
    · rw [if_pos c]
      cases (en.at (.loc i)).dat with
      | none => simp [Opt, kP, kR, nrm]
      | some d0 =>
        cases (en2.at (.loc i)).dat with
        | none => simp [Opt, kP, kR, nrm]
        | some d =>
          simp only [kP, kT, kR, kRet, Opt_nrm, Opt_some, Opt_ite]
          by_cases c2 : sameK d0 d = true
          · rw [if_pos c2]
            cases mutD m d ds with
            | none => simp [Opt, kP, kR, nrm]
            | some r => simp [Opt, c, c2, Stt.setP, kP, kR, nrm]
          · rw [if_neg c2]; simp [Opt, c2, kP, kR, nrm]
    · rw [if_neg c]
      simp only [Opt_none, eq_iff_iff, false_iff]
      exact fun z => c z.1
theorem E_lc0 {elt tg k src ifs own vis} : Opt (evE T Φ (.lc elt tg k src ifs own vis) en) Q = Opt (evSrc T Φ k src en) (kT fun xs c e1 =>
    Opt (lcLp (fun x en => asgTg { en with loc := wipeE en.loc own } x tg) (fun en => evIfs T Φ ifs en) (fun en => evE T Φ elt en) c xs { e1 with loc := wipeE e1.loc own }) (kP fun ys e2 => Opt (nrm { e2 with loc := backE e1.loc e2.loc own }) fun e => Q ⟨.lst ys, true, e⟩)) := by
  conv => lhs; unfold evE
  cases evSrc T Φ k src en with
  | none => rfl
  | some p =>
    obtain ⟨xs, c, en1⟩ := p
    simp only [kP, kT, kR, kRet, Opt_nrm, Opt_some]
    cases lcLp (fun x en => asgTg { en with loc := wipeE en.loc own } x tg) (fun en => evIfs T Φ ifs en) (fun en => evE T Φ elt en) c xs { en1 with loc := wipeE en1.loc own } with
    | none => rfl
    | some y => rfl
/-! arguments -/
variable {A : AV × Stt → Prop}
def argK (i : Nat) (en : Stt) (A : AV × Stt → Prop) (s : Slot) : Prop := match s with
  | .sh d => A (.val d false, en)
  | .no => False
  | _ => A (.pl (.loc i), en)
@[simp] theorem argK_sh {i d} : argK i en A (.sh d) = A (.val d false, en) := rfl
@[simp] theorem argK_ow {i d} : argK i en A (.ow d) = A (.pl (.loc i), en) := rfl
@[simp] theorem argK_io {i d} : argK i en A (.io d) = A (.pl (.loc i), en) := rfl
theorem arg_loc {i ev} : Opt (argOf (.loc i) ev en) A = Opt en.loc[i]? (argK i en A) := by
  show Opt (match en.loc[i]? with
    | some (.sh d) => some (AV.val d false, en)
    | some .no => none
    | some _ => some (.pl (.loc i), en)
    | none => none) A = _
  cases en.loc[i]? with
  | none => rfl
  | some s => cases s <;> rfl
theorem arg_ne {ir ev} (h : isLoc ir = none) : Opt (argOf ir ev en) A = Opt (ev en) (kR fun d fr e1 => A (.val d fr, e1)) := by
  unfold argOf
  rw [h]
  cases ev en with
  | none => rfl
  | some r => rfl
theorem A2_q {a b K} : A2 T Φ a b en K = Opt (argOf a (fun en => evE T Φ a en) en) (kP fun x e1 => Opt (argOf b (fun en => evE T Φ b en) e1) (kP fun y e2 => Opt (x.dat e2) fun d => Opt (y.dat e2) fun e => K d e e2)) := rfl
theorem L_nil {Q : List D × Stt → Prop} : Opt (evL T Φ [] en) Q = Q ([], en) := by unfold evL; rfl
theorem L_cons {e es} {Q : List D × Stt → Prop} : Opt (evL T Φ (e :: es) en) Q = Opt (evE T Φ e en) (kR fun d fr e1 => Opt (evL T Φ es e1) (kP fun ds e2 => Q (d :: ds, e2))) := by
  conv => lhs; unfold evL
  cases evE T Φ e en with
  | none => rfl
  | some r =>
    simp only [kP, kT, kR, kRet, Opt_nrm, Opt_some]
    cases evL T Φ es r.en <;> rfl
theorem Ar_nil {Q : List AV × Stt → Prop} : Opt (evArgs T Φ [] en) Q = Q ([], en) := by unfold evArgs; rfl
theorem Ar_cons {e es} {Q : List AV × Stt → Prop} : Opt (evArgs T Φ (e :: es) en) Q = Opt (argOf e (fun en => evE T Φ e en) en) (kP fun a e1 => Opt (evArgs T Φ es e1) (kP fun as e2 => Q (a :: as, e2))) := by
  conv => lhs; unfold evArgs
  cases argOf e (fun en => evE T Φ e en) en with
  | none => rfl
  | some r =>
    obtain ⟨a, en1⟩ := r
    simp only [kP, kT, kR, kRet, Opt_nrm, Opt_some]
    cases evArgs T Φ es en1 <;> rfl
theorem CA_nil {kp} {Q : List AV × Stt → Prop} : Opt (evCArgs T Φ [] kp [] en) Q = Q ([], en) := by unfold evCArgs; rfl
theorem CA_cons {b io kp e es} {Q : List AV × Stt → Prop} : Opt (evCArgs T Φ (b :: io) kp (e :: es) en) Q = Opt (cargOf b kp e (fun en => evE T Φ e en) en) (kP fun a e1 => Opt (evCArgs T Φ io kp es e1) (kP fun as e2 => Q (a :: as, e2))) := by
  conv => lhs; unfold evCArgs
  cases cargOf b kp e (fun en => evE T Φ e en) en with
  | none => rfl
  | some r =>
    obtain ⟨a, en1⟩ := r
    simp only [kP, kT, kR, kRet, Opt_nrm, Opt_some]
    cases evCArgs T Φ io kp es en1 <;> rfl
theorem ca_val {e ev} : Opt (cargOf false false e ev en) A = Opt (ev en) (kR fun d fr e1 => A (.val d false, e1)) := by
  show Opt (match ev en with | some r => some (AV.val r.d false, r.en) | none => none) A = _
  cases ev en <;> rfl
def keepK (A : AV × Stt → Prop) (a : AV × Stt) : Prop := match a with
  | (.val d _, en) => A (.val d false, en)
  | (.pl x, en) => A (.pl x, en)
@[simp] theorem keepK_val {d fr} : keepK A (.val d fr, en) = A (.val d false, en) := rfl
@[simp] theorem keepK_pl {x} : keepK A (.pl x, en) = A (.pl x, en) := rfl
theorem ca_keep {e ev} : Opt (cargOf false true e ev en) A = Opt (argOf e ev en) (keepK A) := by
  show Opt (match argOf e ev en with
        | some (.val d fr, en1) => some (AV.val d false, en1)
        | some (.pl x, en1) => some (AV.pl x, en1)
        | none => none) A = _
  cases argOf e ev en with
  | none => rfl
  | some p => obtain ⟨a, en1⟩ := p; cases a <;> rfl
def lendK (A : AV × Stt → Prop) (a : AV × Stt) : Prop := match a with
  | (.val d true, en) => A (.val d true, en)
  | (.val d false, en) => False
  | (.pl x, en) => A (.pl x, en)
@[simp] theorem lendK_val {d} : lendK A (.val d true, en) = A (.val d true, en) := rfl
@[simp] theorem lendK_pl {x} : lendK A (.pl x, en) = A (.pl x, en) := rfl
theorem ca_lend {kp e ev} : Opt (cargOf true kp e ev en) A = Opt (argOf e ev en) (lendK A) := by
  show Opt (match argOf e ev en with
        | some (.val d fr, en1) => if fr then some (AV.val d true, en1) else none
        | some (.pl x, en1) => some (AV.pl x, en1)
        | none => none) A = _
  cases argOf e ev en with
  | none => rfl
  | some p =>
    obtain ⟨a, en1⟩ := p
    cases a with
    | val d fr => cases fr <;> rfl
    | pl x => rfl
theorem pt_nop {ev} {Q : Option Int × Stt → Prop} : Opt (ptOf .nop ev en) Q = Q (none, en) := rfl
theorem pt_e {ir ev} {Q : Option Int × Stt → Prop} (h : ir ≠ .nop) : Opt (ptOf ir ev en) Q = Opt (ev en) (intK fun i en' => Q (some i, en')) := by
  have : ptOf ir ev en = match ev en with
    | some ⟨.int i, _, en'⟩ => some (some i, en')
    | _ => none := by cases ir <;> first | rfl | exact absurd rfl h
  rw [this]
  cases ev en with
  | none => rfl
  | some r => obtain ⟨d, fr, en'⟩ := r; cases d <;> rfl
theorem I_nil {Q : Bool × Stt → Prop} : Opt (evIfs T Φ [] en) Q = Q (true, en) := by unfold evIfs; rfl
theorem I_one {e} {Q : Bool × Stt → Prop} : Opt (evIfs T Φ [e] en) Q = Opt (evE T Φ e en) (blK fun b en' => Q (b, en')) := by
  conv => lhs; unfold evIfs
  cases evE T Φ e en with
  | none => rfl
  | some r => obtain ⟨d, fr, en'⟩ := r; cases d <;> rfl
/-! sources -/
variable {Z : List D × Option (Pl × List D) × Stt → Prop}
def srcK (Z : List D × Option (Pl × List D) × Stt → Prop) (a : AV × Stt) : Prop := match a with
  | (.val d _, en) => Opt (itemsD d) fun xs => Z (xs, none, en)
  | (.pl x, en) => match (en.at x).dat with
    | some (.lst xs) => Z (xs, some (x, xs), en)
    | _ => False
@[simp] theorem srcK_val {d fr} : srcK Z (.val d fr, en) = Opt (itemsD d) fun xs => Z (xs, none, en) := rfl
@[simp] theorem srcK_pl {x} : srcK Z (.pl x, en) = match (en.at x).dat with
    | some (.lst xs) => Z (xs, some (x, xs), en)
    | _ => False := rfl
theorem src_val {e} : Opt (evSrc T Φ .val [e] en) Z = Opt (argOf e (fun en => evE T Φ e en) en) (srcK Z) := by
  conv => lhs; unfold evSrc
  cases argOf e (fun en => evE T Φ e en) en with
  | none => rfl
  | some p =>
    obtain ⟨a, en1⟩ := p
    cases a with
    | val d fr =>
      simp only [kP, kT, kR, kRet, Opt_nrm, Opt_some, srcK]
      cases itemsD d <;> rfl
    | pl x =>
      simp only [kP, kT, kR, kRet, Opt_nrm, Opt_some, srcK]
      cases (en1.at x).dat with
      | none => rfl
      | some d => cases d <;> rfl
theorem src_rng1 {e} : Opt (evSrc T Φ .rng1 [e] en) Z = Opt (evE T Φ e en) (intK fun b en1 => (-lim < b ∧ b < lim) ∧ Z (rngL 0 b, none, en1)) := by
  conv => lhs; unfold evSrc
  cases evE T Φ e en with
  | none => rfl
  | some r =>
    obtain ⟨d, fr, en1⟩ := r
    cases d <;> first | rfl | skip
    rename_i i
    simp only [kP, kT, kR, kRet, Opt_nrm, Opt_some, intK_int, Opt_ite]
    by_cases c : -(lim : Int) < i ∧ i < lim
    · rw [if_pos c]; simp [Opt, c, kP, kR, nrm]
    · rw [if_neg c]; simp only [Opt_none, c, false_and]
theorem src_rng2 {e e2} : Opt (evSrc T Φ .rng2 [e, e2] en) Z = Opt (evE T Φ e en) (intK fun a en1 => Opt (evE T Φ e2 en1) (intK fun b en2 => ((-lim < a ∧ a < lim ∧ -lim < b ∧ b < lim) ∧ b - a ≤ lim) ∧ Z (rngL a b, none, en2))) := by
  conv => lhs; unfold evSrc
  cases evE T Φ e en with
  | none => rfl
  | some r =>
    obtain ⟨d, fr, en1⟩ := r
    cases d <;> first | rfl | skip
    simp only [kP, kT, kR, kRet, Opt_nrm, Opt_some, intK_int]
    cases evE T Φ e2 en1 with
    | none => rfl
    | some r =>
      obtain ⟨d, fr, en2⟩ := r
      cases d <;> first | rfl | skip
      rename_i a b
      simp only [kP, kT, kR, kRet, Opt_nrm, Opt_some, intK_int, Opt_ite]
      by_cases c : (-(lim : Int) < a ∧ a < lim ∧ -(lim : Int) < b ∧ b < lim) ∧ b - a ≤ lim
      · rw [if_pos c]; simp [Opt, c, kP, kR, nrm]
      · rw [if_neg c]; simp only [Opt_none, c, false_and]
theorem src_enm {e} : Opt (evSrc T Φ .enm [e] en) Z = Opt (evE T Φ e en) (kR fun d fr e1 => Opt (itemsD d) fun xs => Z (enmL xs, none, e1)) := by
  conv => lhs; unfold evSrc
  cases evE T Φ e en with
  | none => rfl
  | some r =>
    simp only [kP, kT, kR, kRet, Opt_nrm, Opt_some]
    cases itemsD r.d <;> rfl
theorem src_zip {e e2} : Opt (evSrc T Φ .zip [e, e2] en) Z = Opt (evE T Φ e en) (kR fun d fr e1 => Opt (evE T Φ e2 e1) (kR fun d2 fr2 en2 => Opt (itemsD d) fun xs => Opt (itemsD d2) fun ys => Z (pairsL xs ys, none, en2))) := by
  conv => lhs; unfold evSrc
  cases evE T Φ e en with
  | none => rfl
  | some r =>
    simp only [kP, kT, kR, kRet, Opt_nrm, Opt_some]
    cases evE T Φ e2 r.en with
    | none => rfl
    | some r2 =>
      simp only [kP, kT, kR, kRet, Opt_nrm, Opt_some]
      cases itemsD r.d with
      | none => rfl
      | some xs => cases itemsD r2.d <;> rfl
theorem E_rev {a} : Opt (evE T Φ (.rev a) en) Q = Opt (argOf a (fun en => evE T Φ a en) en) (kP fun x e1 => Opt (x.dat e1) fun d => Opt (revD d) (kP fun r fr => Q ⟨r, fr, e1⟩)) := by
  conv => lhs; unfold evE
  cases argOf a (fun en => evE T Φ a en) en with
  | none => rfl
  | some p =>
    obtain ⟨x, e1⟩ := p
    simp only [kP, kT, kR, kRet, Opt_nrm, Opt_some]
    cases x.dat e1 with
    | none => rfl
    | some d =>
      simp only [kP, kT, kR, kRet, Opt_nrm, Opt_some]
      cases revD d with
      | none => rfl
      | some p => rfl
theorem E_dnew : Opt (evE T Φ (.dic [] []) en) Q = Q ⟨.dic [], true, en⟩ := by
  conv => lhs; unfold evE
  rfl
theorem src_zips {e e2} : Opt (evSrc T Φ .zips [e, e2] en) Z = Opt (evE T Φ e en) (kR fun d fr e1 => Opt (evE T Φ e2 e1) (kR fun d2 fr2 en2 => Opt (itemsD d) fun xs => Opt (itemsD d2) fun ys => xs.length = ys.length ∧ Z (pairsL xs ys, none, en2))) := by
  conv => lhs; unfold evSrc
  cases evE T Φ e en with
  | none => rfl
  | some r =>
    simp only [kP, kT, kR, kRet, Opt_nrm, Opt_some]
    cases evE T Φ e2 r.en with
    | none => rfl
    | some r2 =>
      simp only [kP, kT, kR, kRet, Opt_nrm, Opt_some]
      cases itemsD r.d with
      | none => rfl
      | some xs => cases itemsD r2.d with
        | none => rfl
        | some ys =>
          simp only [kP, kT, kR, kRet, Opt_nrm, Opt_some]
          by_cases h : xs.length = ys.length
          · rw [if_pos h]; simp [Opt, h]
          · rw [if_neg h]; simp [Opt, h]
/-! statements -/
theorem S_asg {i e} : Opt (evS T Φ F (.asg i e) en) S = Opt (evE T Φ e en) (kR fun d fr e1 => Opt (putO e1 i fr d) fun en' => S (.nx, en')) := by
  conv => lhs; unfold evS
  cases evE T Φ e en with
  | none => rfl
  | some r => simp only [kP, kT, kR, kRet, Opt_nrm, Opt_some]; cases putO r.en i r.fr r.d <;> rfl
theorem S_asgT {is e} : Opt (evS T Φ F (.asgT is e) en) S = Opt (evE T Φ e en) (kR fun d fr e1 => Opt (asgTg e1 d (.tp is)) fun en' => S (.nx, en')) := by
  conv => lhs; unfold evS
  cases evE T Φ e en with
  | none => rfl
  | some r => simp only [kP, kT, kR, kRet, Opt_nrm, Opt_some]; cases asgTg r.en r.d (.tp is) <;> rfl
theorem S_par {is es} : Opt (evS T Φ F (.par is es) en) S = Opt (evP T Φ es en) (kP fun ds e1 => Opt (putF e1 is ds) fun en' => S (.nx, en')) := by
  conv => lhs; unfold evS
  cases evP T Φ es en with
  | none => rfl
  | some p => obtain ⟨ds, en1⟩ := p; simp only [kP, kT, kR, kRet, Opt_nrm, Opt_some]; cases putF en1 is ds <;> rfl
theorem P_nil {Q : List (D × Bool) × Stt → Prop} : Opt (evP T Φ [] en) Q = Q ([], en) := by unfold evP; rfl
theorem P_cons {e es} {Q : List (D × Bool) × Stt → Prop} : Opt (evP T Φ (e :: es) en) Q = Opt (evE T Φ e en) (kR fun d fr e1 => Opt (evP T Φ es e1) (kP fun ds e2 => Q ((d, fr) :: ds, e2))) := by
  conv => lhs; unfold evP
  cases evE T Φ e en with
  | none => rfl
  | some r =>
    simp only [kP, kT, kR, kRet, Opt_nrm, Opt_some]
    cases evP T Φ es r.en <;> rfl
theorem S_seti {i k e} : Opt (evS T Φ F (.seti (.loc i) k e) en) S = Opt (evE T Φ e en) (kR fun v fr e1 => Opt e1.loc[i]? fun s => Opt (argOf k (fun en => evE T Φ k en) e1) (kP fun kv e2 => ((e2.at (.loc i)).own = true ∧ s.own = true) ∧
    Opt (e2.at (.loc i)).dat fun d => Opt (kv.dat e2) fun kd => Opt (setD d kd v) fun d' => Opt (nrm (e2.set i ((e2.at (.loc i)).upd d'))) fun e => S (.nx, e))) := by
  conv => lhs; unfold evS
  simp only [evArg]
  cases evE T Φ e en with
  | none => rfl
  | some r =>
    simp only [kP, kT, kR, kRet, Opt_nrm, Opt_some]
    cases r.en.loc[i]? with
    | none => rfl
    | some s =>
      simp only [kP, kT, kR, kRet, Opt_nrm, Opt_some]
      cases argOf k (fun en => evE T Φ k en) r.en with
      | none => rfl
      | some kv =>
        obtain ⟨kv, en3⟩ := kv
        simp only [kP, kT, kR, kRet, Opt_nrm, Opt_some, Opt_ite]
        by_cases c : (en3.at (.loc i)).own = true ∧ s.own = true
        · rw [if_pos c]
          cases (en3.at (.loc i)).dat with
          | none => simp [Opt, kP, kR, nrm]
          | some d =>
            cases kv.dat en3 with
            | none => simp [Opt, kP, kR, nrm]
            | some kd =>
              simp only [kP, kT, kR, kRet, Opt_nrm, Opt_some]
              cases setD d kd r.d with
              | none => simp [Opt, kP, kR, nrm]
              | some d' => simp [Opt, c, Stt.setP, kP, kR, nrm]
        · rw [if_neg c]
          simp only [Opt_none, eq_iff_iff, false_iff]
          exact fun z => c z.1
theorem S_augi {i k op e} : Opt (evS T Φ F (.augi (.loc i) k op e) en) S = Opt en.loc[i]? fun s => s.own = true ∧ Opt (argOf k (fun en => evE T Φ k en) en) (kP fun kv e1 => Opt (e1.at (.loc i)).dat fun d => Opt (kv.dat e1) fun kd => Opt (idxD d kd) fun old =>
    Opt (evE T Φ e e1) (kR fun v fr e2 => Opt (augD op old v) fun z => Opt (e2.at (.loc i)).dat fun d2 => Opt (kv.dat e2) fun kd2 => sameK d d2 = true ∧ Opt (setD d2 kd2 z) fun d' => (e2.at (.loc i)).own = true ∧ Opt (nrm (e2.set i ((e2.at (.loc i)).upd d'))) fun e => S (.nx, e))) := by
  conv => lhs; unfold evS
  simp only [evArg]
  cases en.loc[i]? with
  | none => rfl
  | some s =>
    simp only [kP, kT, kR, kRet, Opt_nrm, Opt_some, Opt_ite]
    by_cases c : s.own = true
    · rw [if_pos c]
      simp only [c, true_and]
      cases argOf k (fun en => evE T Φ k en) en with
      | none => rfl
      | some kv =>
        obtain ⟨kv, en2⟩ := kv
        simp only [kP, kT, kR, kRet, Opt_nrm, Opt_some]
        cases (en2.at (.loc i)).dat with
        | none => rfl
        | some d =>
          cases kv.dat en2 with
          | none => rfl
          | some kd =>
            simp only [kP, kT, kR, kRet, Opt_nrm, Opt_some]
            cases idxD d kd with
            | none => rfl
            | some old =>
              simp only [kP, kT, kR, kRet, Opt_nrm, Opt_some]
              cases evE T Φ e en2 with
              | none => rfl
              | some r =>
                simp only [kP, kT, kR, kRet, Opt_nrm, Opt_some]
                cases augD op old r.d with
                | none => rfl
                | some z =>
                  cases (r.en.at (.loc i)).dat with
                  | none => rfl
                  | some d2 =>
                    cases kv.dat r.en with
                    | none => rfl
                    | some kd2 =>
                      simp only [kP, kT, kR, kRet, Opt_nrm, Opt_some, Opt_ite]
                      by_cases c2 : sameK d d2 = true
                      · rw [if_pos c2]
                        simp only [c2, true_and]
                        cases setD d2 kd2 z with
                        | none => rfl
                        | some d' =>
                          simp only [kP, kT, kR, kRet, Opt_nrm, Opt_some, Opt_ite]
                          by_cases c3 : (r.en.at (.loc i)).own = true
                          · rw [if_pos c3]; simp [Opt, c3, Stt.setP]
                          · rw [if_neg c3]; simp [Opt, c3]
                      · rw [if_neg c2]; simp [Opt, c2, kP, kR, nrm]
    · rw [if_neg c]; simp [Opt, c, kP, kR, nrm]
def shK (K : D → Prop) (s : Slot) : Prop := match s with
  | .sh d => K d
  | _ => False
@[simp] theorem shK_sh {K d} : shK K (.sh d) = K d := rfl
theorem S_aug {i op e} : Opt (evS T Φ F (.aug i op e) en) S = Opt en.loc[i]? (shK fun d => Opt (evE T Φ e en) (kR fun v fr e1 => Opt (augD op d v) fun z => Opt (putO e1 i false z) fun en' => S (.nx, en'))) := by
  conv => lhs; unfold evS
  cases en.loc[i]? with
  | none => rfl
  | some s =>
    cases s <;> first | rfl | skip
    simp only [kP, kT, kR, kRet, Opt_nrm, Opt_some, shK_sh]
    cases evE T Φ e en with
    | none => rfl
    | some r =>
      simp only [kP, kT, kR, kRet, Opt_nrm, Opt_some]
      cases augD op _ r.d with
      | none => rfl
      | some z =>
        simp only [kP, kT, kR, kRet, Opt_nrm, Opt_some]
        cases putO r.en i false z <;> rfl
theorem S_exp {e} : Opt (evS T Φ F (.exp e) en) S = Opt (evE T Φ e en) (kR fun d fr e1 => S (.nx, e1)) := by
  conv => lhs; unfold evS
  cases evE T Φ e en <;> rfl
theorem S_ite {c a b} : Opt (evS T Φ F (.ite c a b) en) S = Opt (evE T Φ c en) (blK fun z en' => iteP z (Opt (evSs T Φ F a en') S) (Opt (evSs T Φ F b en') S)) := by
  conv => lhs; unfold evS evB
  cases evE T Φ c en with
  | none => rfl
  | some r =>
    obtain ⟨d, fr, en'⟩ := r
    cases d <;> first | rfl | skip
    rename_i z; cases z <;> simp [Opt, blK, iteP, kP, kR, nrm]
theorem S_for {tg k src body} : Opt (evS T Φ F (.for tg k src body) en) S = Opt (evSrc T Φ k src en) (kT fun xs c e1 => Opt (forLp (fun x en => asgTg en x tg) (fun en => evSs T Φ F body en) c xs e1) S) := by
  conv => lhs; unfold evS
  cases evSrc T Φ k src en with
  | none => rfl
  | some p => obtain ⟨xs, c, en1⟩ := p; rfl
theorem S_whl {c body} : Opt (evS T Φ F (.whl c body) en) S = Opt (whlLp (fun en => evB T Φ c en) (fun en => evSs T Φ F body en) F en) S := by
  conv => lhs; unfold evS
def retK (i : Nat) (en : Stt) (S : Fl × Stt → Prop) (s : Slot) : Prop := match s with
  | .ow d => S (.rt d true, en.set i .no)
  | .sh d => S (.rt d false, en)
  | _ => False
@[simp] theorem retK_ow {i d} : retK i en S (.ow d) = S (.rt d true, en.set i .no) := rfl
@[simp] theorem retK_sh {i d} : retK i en S (.sh d) = S (.rt d false, en) := rfl
theorem S_retL {i} : Opt (evS T Φ F (.ret (.loc i)) en) S = Opt en.loc[i]? (retK i en S) := by
  conv => lhs; unfold evS
  conv => lhs; unfold evE
  simp only
  cases h : en.loc[i]? with
  | none => rfl
  | some s => cases s <;> rfl
theorem S_ret {e} (h : isLoc e = none) : Opt (evS T Φ F (.ret e) en) S = Opt (evE T Φ e en) (kR fun d fr e1 => S (.rt d fr, e1)) := by
  conv => lhs; unfold evS
  cases e <;> first | (cases h; done) | skip
  all_goals (dsimp only; generalize evE T Φ _ en = o; cases o <;> rfl)
theorem S_retN : Opt (evS T Φ F .retN en) S = S (.rt .non false, en) := by unfold evS; rfl
theorem S_brk : Opt (evS T Φ F .brk en) S = S (.bk, en) := by unfold evS; rfl
theorem S_cnt : Opt (evS T Φ F .cnt en) S = S (.ct, en) := by unfold evS; rfl
theorem S_pas : Opt (evS T Φ F .pas en) S = S (.nx, en) := by unfold evS; rfl
def seqK (S : Fl × Stt → Prop) (r : Stt → Prop) (p : Fl × Stt) : Prop := match p with
  | (.nx, en) => r en
  | (.bk, en) => S (.bk, en)
  | (.ct, en) => S (.ct, en)
  | (.rt d fr, en) => S (.rt d fr, en)
@[simp] theorem seqK_nx {r} : seqK S r (.nx, en) = r en := rfl
@[simp] theorem seqK_bk {r} : seqK S r (.bk, en) = S (.bk, en) := rfl
@[simp] theorem seqK_ct {r} : seqK S r (.ct, en) = S (.ct, en) := rfl
@[simp] theorem seqK_rt {r d fr} : seqK S r (.rt d fr, en) = S (.rt d fr, en) := rfl
theorem Ss_nil : Opt (evSs T Φ F [] en) S = S (.nx, en) := by unfold evSs; rfl
theorem Ss_cons {s ss} : Opt (evSs T Φ F (s :: ss) en) S = Opt (evS T Φ F s en) (seqK S fun en' => Opt (evSs T Φ F ss en') S) := by
  conv => lhs; unfold evSs
  cases evS T Φ F s en with
  | none => rfl
  | some p => obtain ⟨fl, en1⟩ := p; cases fl <;> rfl
/-- the last statement -/
theorem Ss_one {s} : Opt (evSs T Φ F [s] en) S = Opt (evS T Φ F s en) S := by
  rw [Ss_cons]
  cases evS T Φ F s en with
  | none => rfl
  | some p => obtain ⟨fl, en1⟩ := p; cases fl <;> simp [Opt, seqK, evSs]
/-! a def -/
def endK (io : List Bool) (Q : Ret → Prop) (p : Fl × Stt) : Prop := match p with
  | (.rt d fr, en) => Opt (outsOf io en.loc) fun outs => Q ⟨d, fr, outs, en.obs⟩
  | (.nx, en) => Opt (outsOf io en.loc) fun outs => Q ⟨.non, false, outs, en.obs⟩
  | _ => False
@[simp] theorem endK_rt {io d fr} {Q : Ret → Prop} : endK io Q (.rt d fr, en) = Opt (outsOf io en.loc) fun outs => Q ⟨d, fr, outs, en.obs⟩ := rfl
@[simp] theorem endK_nx {io} {Q : Ret → Prop} : endK io Q (.nx, en) = Opt (outsOf io en.loc) fun outs => Q ⟨.non, false, outs, en.obs⟩ := rfl
theorem fn_q {io n body ds obs} {Q : Ret → Prop} : Opt (fnE T Φ F io n body ds obs) Q = Opt (nrm ⟨parS io ds ++ List.replicate n .no, obs⟩) fun en => Opt (evSs T Φ F body en) (endK io Q) := by
  rw [Opt_nrm]
  unfold fnE
  cases evSs T Φ F body ⟨parS io ds ++ List.replicate n .no, obs⟩ with
  | none => rfl
  | some p =>
    obtain ⟨fl, en'⟩ := p
    cases fl <;> first | rfl | skip
    · simp only [kP, kT, kR, kRet, Opt_nrm, Opt_some, endK]; cases outsOf io en'.loc <;> rfl
    · simp only [kP, kT, kR, kRet, Opt_nrm, Opt_some, endK]; cases outsOf io en'.loc <;> rfl
end
end Py
/-! Loops by invariants. -/
namespace Py
open PySem PySem.Spec PyProof.Rows L2
open Classical
theorem chk_none {en : Stt} : chkOk none en = true := rfl
theorem chk_some {en : Stt} {x : Pl} {ds : List D} (h : (en.at x).dat = some (.lst ds)) (h2 : (en.at x).own = true) : chkOk (some (x, ds)) en = true := by
  unfold chkOk
  exact if_pos h
/-- what a turn of a for loop may end in -/
def turnK (I : Stt → Prop) (S : Fl × Stt → Prop) (p : Fl × Stt) : Prop := match p with
  | (.nx, en) => I en
  | (.ct, en) => I en
  | (.bk, en) => S (.nx, en)
  | (.rt d fr, en) => S (.rt d fr, en)
section
variable {I : Stt → Prop} {S : Fl × Stt → Prop} {en : Stt}
@[simp] theorem turnK_nx : turnK I S (.nx, en) = I en := rfl
@[simp] theorem turnK_ct : turnK I S (.ct, en) = I en := rfl
@[simp] theorem turnK_bk : turnK I S (.bk, en) = S (.nx, en) := rfl
@[simp] theorem turnK_rt {d fr} : turnK I S (.rt d fr, en) = S (.rt d fr, en) := rfl
end
theorem for_inv {g : D → Stt → Option Stt} {f : Stt → Option (Fl × Stt)} {c : Option (Pl × List D)} {xs : List D} {en : Stt} {S : Fl × Stt → Prop} (I : List D → Stt → Prop)
    (h0 : I [] en) (hc : ∀ pre st, I pre st → chkOk c st = true)
    (step : ∀ pre x post st, xs = pre ++ x :: post → I pre st → Opt (g x st) fun en1 => Opt (f en1) (turnK (I (pre ++ [x])) S))
    (hQ : ∀ st, I xs st → S (.nx, st)) : Opt (forLp g f c xs en) S := by
  have key : ∀ (post pre : List D) (en : Stt), xs = pre ++ post → I pre en → Opt (forLp g f c post en) S := by
    intro post
    induction post with
    | nil =>
      intro pre en e h
      unfold forLp
      rw [if_pos (hc _ _ h)]
      exact hQ en (by rw [e, List.append_nil]; exact h)
    | cons x post ih =>
      intro pre en e h
      unfold forLp
      rw [if_pos (hc _ _ h)]
      have st := step pre x post en e h
      cases q : g x en with
      | none => rw [q] at st; exact st.elim
      | some en1 =>
        rw [q, Opt_some] at st
        simp only
        cases q2 : f en1 with
        | none => rw [q2] at st; exact st.elim
        | some p =>
          obtain ⟨fl, en2⟩ := p
          rw [q2, Opt_some] at st
          cases fl with
          | nx => exact ih (pre ++ [x]) en2 (by rw [e]; simp) st
          | ct => exact ih (pre ++ [x]) en2 (by rw [e]; simp) st
          | bk => exact st
          | rt d fr => exact st
  exact key xs [] en rfl h0
/-- a statement, then the rest -/
theorem Ss_cut {T : Tab} {Φ : Nat → FnSem} {F : Nat} {s : IS} {ss : List IS} {en : Stt} {S : Fl × Stt → Prop} (P : Stt → Prop) (h1 : Opt (evS T Φ F s en) (seqK S P)) (h2 : ∀ en', P en' → Opt (evSs T Φ F ss en') S) : Opt (evSs T Φ F (s :: ss) en) S := by
  rw [Ss_cons]
  refine Opt_mono h1 fun p h => ?_
  obtain ⟨fl, en'⟩ := p
  cases fl <;> first | exact h2 _ h | exact h
theorem rngL_split {a b : Int} {pre post : List D} {x : D} (h : rngL a b = pre ++ x :: post) : x = .int (a + pre.length) ∧ (pre.length : Int) < b - a := by
  have h1 : (rngL a b)[pre.length]? = some x := by rw [h]; simp
  unfold rngL at h1
  rw [List.getElem?_map] at h1
  have hl : (rngL a b).length = (b - a).toNat := by simp [rngL]
  rw [h] at hl
  simp only [List.length_append, List.length_cons] at hl
  rw [List.getElem?_range (by omega)] at h1
  refine ⟨by simpa using h1.symm, by omega⟩
theorem rngL_ln {a b : Int} : (rngL a b).length = (b - a).toNat := by simp [rngL]
/-- a loop over a range -/
theorem for_rng {g : D → Stt → Option Stt} {f : Stt → Option (Fl × Stt)} {a b : Int} {en : Stt} {S : Fl × Stt → Prop} (I : Nat → Stt → Prop)
    (h0 : I 0 en)
    (step : ∀ (k : Nat) st, (k : Int) < b - a → I k st → Opt (g (.int (a + k)) st) fun en1 => Opt (f en1) (turnK (I (k + 1)) S))
    (hQ : ∀ st, I (b - a).toNat st → S (.nx, st)) : Opt (forLp g f none (rngL a b) en) S := by
  refine for_inv (fun pre st => I pre.length st) h0 (fun _ _ _ => rfl) (fun pre x post st e h => ?_) (fun st h => hQ st (by rw [rngL_ln] at h; exact h))
  obtain ⟨rfl, hl⟩ := rngL_split e
  have := step pre.length st hl h
  rw [List.length_append]
  exact this
theorem lc_inv {g : D → Stt → Option Stt} {t : Stt → Option (Bool × Stt)} {f : Stt → Option R} {c : Option (Pl × List D)} {xs : List D} {en : Stt} {S : List D × Stt → Prop} (I : List D → List D → Stt → Prop)
    (h0 : I [] [] en) (hc : ∀ pre ys st, I pre ys st → chkOk c st = true)
    (step : ∀ pre x post ys st, xs = pre ++ x :: post → I pre ys st → Opt (g x st) fun en1 => Opt (t en1) (kP fun b e2 => iteP b (Opt (f e2) (kR fun d fr e3 => I (pre ++ [x]) (ys ++ [d]) e3)) (I (pre ++ [x]) ys e2)))
    (hQ : ∀ ys st, I xs ys st → S (ys, st)) : Opt (lcLp g t f c xs en) S := by
  have key : ∀ (post pre ys : List D) (en : Stt), xs = pre ++ post → I pre ys en → Opt (lcLp g t f c post en) fun r => I xs (ys ++ r.1) r.2 := by
    intro post
    induction post with
    | nil =>
      intro pre ys en e h
      unfold lcLp
      rw [if_pos (hc _ _ _ h)]
      rw [e, List.append_nil]
      simpa [Opt] using h
    | cons x post ih =>
      intro pre ys en e h
      unfold lcLp
      rw [if_pos (hc _ _ _ h)]
      have st := step pre x post ys en e h
      cases q : g x en with
      | none => rw [q] at st; exact st.elim
      | some en1 =>
        rw [q, Opt_some] at st
        simp only
        cases q2 : t en1 with
        | none => rw [q2] at st; exact st.elim
        | some p =>
          obtain ⟨b, en2⟩ := p
          rw [q2, Opt_some] at st
          cases b with
          | false =>
            simp only [kP, iteP_f] at st
            exact ih (pre ++ [x]) ys en2 (by rw [e]; simp) st
          | true =>
            simp only [kP, kR, iteP_t] at st
            simp only
            cases q3 : f en2 with
            | none => rw [q3] at st; exact st.elim
            | some r =>
              rw [q3, Opt_some] at st
              have z := ih (pre ++ [x]) (ys ++ [r.d]) r.en (by rw [e]; simp) st
              simp only
              cases q4 : lcLp g t f c post r.en with
              | none => rw [q4] at z; exact z.elim
              | some w =>
                obtain ⟨zs, en3⟩ := w
                rw [q4, Opt_some] at z
                rw [Opt_some]
                simpa using z
  exact Opt_mono (key xs [] [] en rfl h0) fun r h => hQ r.1 r.2 (by simpa using h)
def wipeT (own : List Nat) (st : Stt) : Stt := ⟨wipeE st.loc own, st.obs⟩
theorem backE_wipe (l0 l : List Slot) (own : List Nat) : ∀ is, (∀ i ∈ own, i ∈ is) → backE l0 (wipeE l own) is = backE l0 l is := by
  intro is hi
  have len : ∀ (o : List Nat) (l : List Slot), (wipeE l o).length = l.length := by
    intro o
    induction o with
    | nil => intro l; rfl
    | cons v o ih => intro l; simp [wipeE, ih]
  have lenb : ∀ (o : List Nat) (l : List Slot), (backE l0 l o).length = l.length := by
    intro o
    induction o with
    | nil => intro l; rfl
    | cons v o ih => intro l; simp [backE, ih]
  have gw : ∀ (o : List Nat) (l : List Slot) (j : Nat), j ∉ o → (wipeE l o)[j]? = l[j]? := by
    intro o
    induction o with
    | nil => intro l j _; rfl
    | cons v o ih =>
      intro l j hj
      simp only [List.mem_cons, not_or] at hj
      show ((wipeE l o).set v .no)[j]? = _
      rw [List.getElem?_set_ne (fun z => hj.1 z.symm), ih l j hj.2]
  have gb : ∀ (o : List Nat) (l l' : List Slot) (j : Nat), l.length = l'.length → (j ∉ o → l[j]? = l'[j]?) → (backE l0 l o)[j]? = (backE l0 l' o)[j]? := by
    intro o
    induction o with
    | nil => intro l l' j _ h; exact h (by simp)
    | cons v o ih =>
      intro l l' j hl h
      show ((backE l0 l o).set v (match l0[v]? with | some (.sh d) => .sh d | _ => .no))[j]? = ((backE l0 l' o).set v (match l0[v]? with | some (.sh d) => .sh d | _ => .no))[j]?
      generalize (match l0[v]? with | some (.sh d) => Slot.sh d | _ => Slot.no) = sl
      by_cases e : v = j
      · subst e
        rw [List.getElem?_set_self', List.getElem?_set_self']
        by_cases hv : v < l.length
        · rw [List.getElem?_eq_getElem (by rw [lenb]; exact hv), List.getElem?_eq_getElem (by rw [lenb, ← hl]; exact hv)]
          rfl
        · rw [List.getElem?_eq_none (by rw [lenb]; omega), List.getElem?_eq_none (by rw [lenb, ← hl]; omega)]
      · rw [List.getElem?_set_ne e, List.getElem?_set_ne e]
        exact ih l l' j hl fun hj => h (by simp only [List.mem_cons, not_or]; exact ⟨fun z => e z.symm, hj⟩)
  apply List.ext_getElem?
  intro j
  exact gb is _ _ j (len own l) fun hj => gw own l j fun z => hj (hi j z)
theorem wipe_idem (l : List Slot) (own : List Nat) : wipeE (wipeE l own) own = wipeE l own := by
  have gw : ∀ (o : List Nat) (l : List Slot) (j : Nat), (wipeE l o)[j]? = if j ∈ o then l[j]?.map fun _ => Slot.no else l[j]? := by
    intro o
    induction o with
    | nil => intro l j; rfl
    | cons v o ih =>
      intro l j
      show ((wipeE l o).set v .no)[j]? = _
      rw [List.getElem?_set', ih]
      by_cases e : v = j
      · subst e
        simp only [if_true, List.mem_cons, true_or]
        split <;> cases l[v]? <;> rfl
      · rw [if_neg e]
        have e' : ¬ j = v := fun z => e z.symm
        simp only [List.mem_cons, e', false_or]
  apply List.ext_getElem?
  intro j
  rw [gw, gw]
  split
  · cases l[j]? <;> rfl
  · rfl
theorem E_lc {T : Tab} {Φ : Nat → FnSem} {en : Stt} {Q : R → Prop} {elt tg k src ifs own vis} : Opt (evE T Φ (.lc elt tg k src ifs own vis) en) Q = Opt (evSrc T Φ k src en) (kT fun xs c e1 => Opt (nrm (wipeT own e1)) fun e0 =>
    Opt (lcLp (fun x en => asgTg (wipeT own en) x tg) (fun en => evIfs T Φ ifs en) (fun en => evE T Φ elt en) c xs e0) (kP fun ys e2 => Opt (nrm (wipeT own e2)) fun e3 => Opt (nrm ⟨backE e1.loc e3.loc own, e3.obs⟩) fun e => Q ⟨.lst ys, true, e⟩)) := by
  rw [E_lc0]
  refine Opt_ext fun p => ?_
  obtain ⟨xs, c, e1⟩ := p
  simp only [kT, Opt_nrm]
  show Opt _ _ = Opt _ _
  refine Opt_ext fun q => ?_
  obtain ⟨ys, e2⟩ := q
  show Q ⟨.lst ys, true, ⟨backE e1.loc e2.loc own, e2.obs⟩⟩ = Q ⟨.lst ys, true, ⟨backE e1.loc (wipeE e2.loc own) own, e2.obs⟩⟩
  rw [backE_wipe e1.loc e2.loc own own (fun _ h => h)]
section
variable {own : List Nat} {tg : Tg} {t : Stt → Option (Bool × Stt)} {ev : Stt → Option R} {xs : List D} {en : Stt} {K : List D → Stt → Prop} {c : Option (Pl × List D)}
theorem wipeT_idem (st : Stt) : wipeT own (wipeT own st) = wipeT own st := by unfold wipeT; rw [wipe_idem]
/-- a comprehension, by an invariant over states with its own names wiped -/
theorem lcLp_inv (I : List D → List D → Stt → Prop) (hw : wipeT own en = en) (h0 : I [] [] en) (hc : ∀ pre ys st, I pre ys (wipeT own st) → chkOk c st = true)
    (step : ∀ pre x post ys st, xs = pre ++ x :: post → I pre ys st → Opt (asgTg st x tg) fun e1 => Opt (t e1) (kP fun b e2 => iteP b (Opt (ev e2) (kR fun d fr e3 => I (pre ++ [x]) (ys ++ [d]) (wipeT own e3))) (I (pre ++ [x]) ys (wipeT own e2))))
    (hQ : ∀ ys e, I xs ys (wipeT own e) → K ys e) : Opt (lcLp (fun x en => asgTg (wipeT own en) x tg) t ev c xs en) (kP K) :=
  lc_inv (fun pre ys st => I pre ys (wipeT own st)) (by rw [hw]; exact h0) (fun pre ys st h => hc pre ys st h) (fun pre x post ys st e h => step pre x post ys (wipeT own st) e h) fun ys st h => hQ ys st h
/-- a comprehension that leaves the state as it is -/
theorem lcLp_same (P : List D → List D → Prop) (hw : wipeT own en = en) (hc : ∀ st, wipeT own st = en → chkOk c st = true) (h0 : P [] [])
    (step : ∀ pre x post ys, xs = pre ++ x :: post → P pre ys → Opt (asgTg en x tg) fun e1 => Opt (t e1) (kP fun b e2 => iteP b (Opt (ev e2) (kR fun d fr e3 => P (pre ++ [x]) (ys ++ [d]) ∧ wipeT own e3 = en)) (P (pre ++ [x]) ys ∧ wipeT own e2 = en)))
    (hQ : ∀ ys e, P xs ys → wipeT own e = en → K ys e) : Opt (lcLp (fun x en => asgTg (wipeT own en) x tg) t ev c xs en) (kP K) :=
  lcLp_inv (fun pre ys st => P pre ys ∧ st = en) hw ⟨h0, rfl⟩ (fun _ _ st h => hc st h.2) (fun pre x post ys st e h => by rw [h.2]; exact step pre x post ys e h.1) fun ys e h => hQ ys e h.1 h.2
/-- a comprehension without effects -/
theorem lcLp_map (f : D → Option D) (hw : wipeT own en = en) (hc : ∀ st, wipeT own st = en → chkOk c st = true)
    (step : ∀ x ∈ xs, Opt (asgTg en x tg) fun e1 => Opt (t e1) (kP fun b e2 => iteP b (Opt (ev e2) (kR fun d fr e3 => f x = some d ∧ wipeT own e3 = en)) (f x = none ∧ wipeT own e2 = en)))
    (hQ : ∀ e, wipeT own e = en → K (xs.filterMap f) e) : Opt (lcLp (fun x en => asgTg (wipeT own en) x tg) t ev c xs en) (kP K) := by
  refine lcLp_inv (fun pre ys st => ys = pre.filterMap f ∧ st = en) hw ⟨rfl, rfl⟩ (fun _ _ st h => hc st h.2) (fun pre x post ys st e h => ?_) fun ys e h => by rw [h.1]; exact hQ e h.2
  obtain ⟨rfl, rfl⟩ := h
  refine Opt_mono (step x (by rw [e]; simp)) fun e1 h => Opt_mono h fun p h => ?_
  obtain ⟨b, e2⟩ := p
  rw [kP_mk] at h ⊢
  cases b
  case true =>
    rw [iteP_t] at h ⊢
    refine Opt_mono h fun r h => ⟨?_, h.2⟩
    rw [List.filterMap_append, List.filterMap_cons, h.1]
    rfl
  case false =>
    rw [iteP_f] at h ⊢
    refine ⟨?_, h.2⟩
    rw [List.filterMap_append, List.filterMap_cons, h.1]
    simp
/-- a comprehension without a test -/
theorem lcLp_fun {T : Tab} {Φ : Nat → FnSem} (f : D → D) (hw : wipeT own en = en) (hc : ∀ st, wipeT own st = en → chkOk c st = true)
    (step : ∀ x ∈ xs, Opt (asgTg en x tg) fun e1 => Opt (ev e1) (kR fun d fr e3 => d = f x ∧ wipeT own e3 = en))
    (hQ : ∀ e, wipeT own e = en → K (xs.map f) e) : Opt (lcLp (fun x en => asgTg (wipeT own en) x tg) (fun en => evIfs T Φ [] en) ev c xs en) (kP K) := by
  refine lcLp_map (fun x => some (f x)) hw hc (fun x hx => Opt_mono (step x hx) fun e1 h => ?_) (by rw [List.filterMap_eq_map']; exact hQ)
  rw [I_nil, kP_mk, iteP_t]
  refine Opt_mono h fun r h => ⟨by rw [← h.1], h.2⟩
end
theorem split_map {α : Type} {f : α → D} : ∀ {l : List α} {pre post : List D} {x : D}, l.map f = pre ++ x :: post → ∃ p a q, l = p ++ a :: q ∧ pre = p.map f ∧ x = f a ∧ post = q.map f := by
  intro l
  induction l with
  | nil => intro pre post x h; simp at h
  | cons b l ih =>
    intro pre post x h
    cases pre with
    | nil =>
      simp only [List.map_cons, List.nil_append, List.cons.injEq] at h
      exact ⟨[], b, l, rfl, rfl, h.1.symm, h.2.symm⟩
    | cons y pre =>
      simp only [List.map_cons, List.cons_append, List.cons.injEq] at h
      obtain ⟨p, a, q, rfl, rfl, rfl, rfl⟩ := ih h.2
      exact ⟨b :: p, a, q, rfl, by rw [List.map_cons, h.1], rfl, rfl⟩
theorem pre_len {α : Type} {p q p' q' : List α} (h : p ++ q = p' ++ q') (hl : p.length = p'.length) : p = p' ∧ q = q' := List.append_inj h hl
/-- a loop over the images of a list -/
theorem for_map {α : Type} {g : D → Stt → Option Stt} {f : Stt → Option (Fl × Stt)} {c : Option (Pl × List D)} {h : α → D} {l : List α} {en : Stt} {S : Fl × Stt → Prop} (I : List α → Stt → Prop)
    (h0 : I [] en) (hc : ∀ p q st, l = p ++ q → I p st → chkOk c st = true)
    (step : ∀ p a q st, l = p ++ a :: q → I p st → Opt (g (h a) st) fun en1 => Opt (f en1) (turnK (I (p ++ [a])) S))
    (hQ : ∀ st, I l st → S (.nx, st)) : Opt (forLp g f c (l.map h) en) S := by
  refine for_inv (fun pre st => ∃ p q, l = p ++ q ∧ pre.length = p.length ∧ I p st) ⟨[], l, rfl, rfl, h0⟩ (fun pre st ⟨p, q, e, _, i⟩ => hc p q st e i) (fun pre x post st e ⟨p, q, e2, hl, i⟩ => ?_) (fun st ⟨p, q, e, hl, i⟩ => ?_)
  · obtain ⟨p', a, q', e3, rfl, rfl, rfl⟩ := split_map e
    rw [e3] at e2
    obtain ⟨rfl, rfl⟩ := pre_len e2 (by simpa using hl)
    refine Opt_mono (step p' a q' st e3 i) fun en1 z => Opt_mono z fun r z => ?_
    obtain ⟨fl, en2⟩ := r
    cases fl with
    | nx => exact ⟨p' ++ [a], q', by rw [e3]; simp, by simp, z⟩
    | ct => exact ⟨p' ++ [a], q', by rw [e3]; simp, by simp, z⟩
    | bk => exact z
    | rt d fr => exact z
  · rw [List.length_map] at hl
    have : q = [] := by
      have := congrArg List.length e
      rw [List.length_append] at this
      exact List.eq_nil_of_length_eq_zero (by omega)
    subst this
    rw [List.append_nil] at e
    exact hQ st (by rw [e]; exact i)
section
variable {own : List Nat} {tg : Tg} {t : Stt → Option (Bool × Stt)} {ev : Stt → Option R} {en : Stt} {K : List D → Stt → Prop} {c : Option (Pl × List D)}
/-- a comprehension without effects over the images of a list -/
theorem lcLp_mapM {α : Type} {h : α → D} {l : List α} (f : α → Option D) (hw : wipeT own en = en) (hc : ∀ st, wipeT own st = en → chkOk c st = true)
    (step : ∀ a ∈ l, Opt (asgTg en (h a) tg) fun e1 => Opt (t e1) (kP fun b e2 => iteP b (Opt (ev e2) (kR fun d fr e3 => f a = some d ∧ wipeT own e3 = en)) (f a = none ∧ wipeT own e2 = en)))
    (hQ : ∀ e, wipeT own e = en → K (l.filterMap f) e) : Opt (lcLp (fun x en => asgTg (wipeT own en) x tg) t ev c (l.map h) en) (kP K) := by
  refine lcLp_same (fun pre ys => ∃ p q, l = p ++ q ∧ pre.length = p.length ∧ ys = p.filterMap f) hw hc ⟨[], l, rfl, rfl, rfl⟩ (fun pre x post ys e ⟨p, q, e2, hl, ey⟩ => ?_) (fun ys e ⟨p, q, e2, hl, ey⟩ he => ?_)
  · obtain ⟨p', a, q', e3, rfl, rfl, rfl⟩ := split_map e
    rw [e3] at e2
    obtain ⟨rfl, rfl⟩ := pre_len e2 (by simpa using hl)
    subst ey
    refine Opt_mono (step a (by rw [e3]; simp)) fun e1 z => Opt_mono z fun r z => ?_
    obtain ⟨b, e2⟩ := r
    rw [kP_mk] at z ⊢
    cases b
    case true =>
      rw [iteP_t] at z ⊢
      exact Opt_mono z fun r z => ⟨⟨p' ++ [a], q', by rw [e3]; simp, by simp, by rw [List.filterMap_append, List.filterMap_cons, z.1]; rfl⟩, z.2⟩
    case false =>
      rw [iteP_f] at z ⊢
      exact ⟨⟨p' ++ [a], q', by rw [e3]; simp, by simp, by rw [List.filterMap_append, List.filterMap_cons, z.1]; simp⟩, z.2⟩
  · rw [List.length_map] at hl
    have : q = [] := by
      have := congrArg List.length e2
      rw [List.length_append] at this
      exact List.eq_nil_of_length_eq_zero (by omega)
    subst this
    rw [List.append_nil] at e2
    rw [ey, ← e2]
    exact hQ e he
theorem lcLp_funM {α : Type} {T : Tab} {Φ : Nat → FnSem} {h : α → D} {l : List α} (f : α → D) (hw : wipeT own en = en) (hc : ∀ st, wipeT own st = en → chkOk c st = true)
    (step : ∀ a ∈ l, Opt (asgTg en (h a) tg) fun e1 => Opt (ev e1) (kR fun d fr e3 => d = f a ∧ wipeT own e3 = en))
    (hQ : ∀ e, wipeT own e = en → K (l.map f) e) : Opt (lcLp (fun x en => asgTg (wipeT own en) x tg) (fun en => evIfs T Φ [] en) ev c (l.map h) en) (kP K) := by
  refine lcLp_mapM (fun x => some (f x)) hw hc (fun x hx => Opt_mono (step x hx) fun e1 h => ?_) (by rw [List.filterMap_eq_map']; exact hQ)
  rw [I_nil, kP_mk, iteP_t]
  refine Opt_mono h fun r h => ⟨by rw [← h.1], h.2⟩
end
end Py
/-! Bodies of defs that laws share. -/
namespace Py
open PySem PySem.Spec PyProof.Rows L2
/-- _law_open -/
def b_l_open : List IS := [.asg 1 (.prm .list [(.slc (.loc 0) .nop (.cst (.int 12)))]), .for (.tp [2, 3]) .enm [(.slc (.loc 0) (.cst (.int 12)) (.cst (.int 63)))] [.seti (.loc 1) (.bin .Mod (.loc 2) (.cst (.int 12))) (.bin .Add (.idx (.loc 1) (.bin .Mod (.loc 2) (.cst (.int 12)))) (.loc 3))], .ret (.lst [(.loc 1), (.cst (.int 0)), (.cst (.int 0))])]
abbrev d_l_open : Dfn := ⟨[false], 3, b_l_open⟩
abbrev i_l_open : Nat := 0
/-- _law_spread -/
def b_l_spread : List IS := [.ite (.cmp .GtE (.loc 0) (.bin .Pow (.cst (.int 10)) (.cst (.int 18)))) [.ret (.loc 0)] [], .asg 2 (.lst [(.cst (.int 2147483629)), (.cst (.int 2147483587)), (.cst (.int 2147483579)), (.cst (.int 2147483563)), (.cst (.int 2147483549)), (.cst (.int 2147483543)), (.cst (.int 2147483497)), (.cst (.int 2147483489))]), .asg 2 (.bin .Add (.loc 2) (.lst [(.cst (.int 2147483477)), (.cst (.int 2147483423)), (.cst (.int 2147483399)), (.cst (.int 2147483353)), (.cst (.int 2147483323))])), .asg 3 (.bin .Mod (.bin .Pow (.bin .Add (.bin .Add (.bin .Mult (.bin .Mod (.loc 0) (.cst (.int 1000000007))) (.bin .Add (.bin .Mult (.cst (.int 2)) (.loc 1)) (.cst (.int 69069)))) (.bin .Mult (.loc 1) (.cst (.int 40503)))) (.cst (.int 977))) (.cst (.int 3))) (.idx (.loc 2) (.bin .Mod (.loc 1) (.cst (.int 13))))), .asg 4 (.bin .Mod (.bin .Pow (.bin .Add (.bin .Add (.bin .Mult (.loc 3) (.bin .Add (.loc 1) (.cst (.int 3)))) (.bin .Mod (.loc 0) (.cst (.int 65537)))) (.cst (.int 5))) (.cst (.int 5))) (.idx (.loc 2) (.bin .Mod (.bin .Add (.loc 1) (.cst (.int 5))) (.cst (.int 13))))), .asg 5 (.bin .Mod (.bin .Pow (.bin .Add (.bin .Add (.loc 4) (.bin .Mod (.loc 3) (.cst (.int 1009)))) (.loc 1)) (.cst (.int 3))) (.idx (.loc 2) (.bin .Mod (.bin .Add (.loc 1) (.cst (.int 7))) (.cst (.int 13))))), .ret (.bin .Add (.bin .Mult (.bin .Add (.bin .Mult (.loc 3) (.cst (.int 2147483647))) (.loc 4)) (.cst (.int 2147483647))) (.loc 5))]
abbrev d_l_spread : Dfn := ⟨[false, false], 4, b_l_spread⟩
abbrev i_l_spread : Nat := 1
/-- _law_take -/
def b_l_take : List IS := [.ite (.cmp .Lt (.idx (.loc 0) (.cst (.int 2))) (.loc 1)) [.asg 3 (.idx (.loc 0) (.cst (.int 1))), .asg 4 (.cst (.int 0)), .ite (.cmp .Lt (.loc 3) (.prm .len [(.idx (.loc 0) (.cst (.int 0)))])) [.asg 4 (.idx (.idx (.loc 0) (.cst (.int 0))) (.loc 3))] [.ite (.cmp .Gt (.prm .len [(.idx (.loc 0) (.cst (.int 0)))]) (.cst (.int 0))) [.asg 4 (.bin .Mod (.idx (.idx (.loc 0) (.cst (.int 0))) (.bin .Mod (.bin .Add (.bin .Mult (.loc 3) (.cst (.int 5))) (.cst (.int 3))) (.prm .len [(.idx (.loc 0) (.cst (.int 0)))]))) (.bin .Add (.bin .Pow (.cst (.int 10)) (.cst (.int 17))) (.loc 3)))] []], .seti (.loc 0) (.cst (.int 1)) (.bin .Add (.loc 3) (.cst (.int 1))), .seti (.loc 0) (.cst (.int 2)) (.call 1 [(.loc 4), (.loc 3)])] [], .asg 2 (.bin .Mod (.idx (.loc 0) (.cst (.int 2))) (.loc 1)), .seti (.loc 0) (.cst (.int 2)) (.bin .FloorDiv (.idx (.loc 0) (.cst (.int 2))) (.loc 1)), .ret (.loc 2)]
abbrev d_l_take : Dfn := ⟨[true, false], 3, b_l_take⟩
abbrev i_l_take : Nat := 2
/-- _law_same -/
def b_l_same : List IS := [.ite (.or (.cmp .Is (.loc 1) (.cst .non)) (.cmp .Is (.loc 0) (.cst .non))) [.ret (.and (.cmp .Is (.loc 1) (.cst .non)) (.cmp .Is (.loc 0) (.cst .non)))] [], .ite (.or (.isi (.loc 1) [.bool]) (.isi (.loc 0) [.bool])) [.ret (.and (.isi (.loc 1) [.bool]) (.and (.isi (.loc 0) [.bool]) (.cmp .Eq (.loc 0) (.loc 1))))] [], .ite (.isi (.loc 1) [.int, .str]) [.ite (.cmp .NotEq (.isi (.loc 0) [.int]) (.isi (.loc 1) [.int])) [.ret (.cst (.bl false))] [], .ret (.and (.isi (.loc 0) [.int, .str]) (.cmp .Eq (.loc 0) (.loc 1)))] [], .ite (.or (.cmp .NotEq (.isi (.loc 1) [.tuple]) (.isi (.loc 0) [.tuple])) (.cmp .NotEq (.isi (.loc 1) [.list]) (.isi (.loc 0) [.list]))) [.ret (.cst (.bl false))] [], .ite (.cmp .NotEq (.prm .len [(.loc 0)]) (.prm .len [(.loc 1)])) [.ret (.cst (.bl false))] [], .ret (.cmp .NotIn (.cst (.bl false)) (.lc (.call 3 [(.loc 2), (.loc 3)]) (.tp [2, 3]) .zip [(.loc 0), (.loc 1)] [] [2, 3] [2, 3]))]
abbrev d_l_same : Dfn := ⟨[false, false], 2, b_l_same⟩
abbrev i_l_same : Nat := 3
/-- _law_draw_alphabet -/
def b_l_draw_alphabet : List IS := [.asg 2 (.cst (.str "!\"#$&'()*+,-./0123456789:;<=>?@ABCDEFGHIJKLMNOPQRSTUVWXYZ[\\]^_`abcdefghijklmnopqrstuvwxyz{|}~")), .par [3, 4] [(.call 2 [(.loc 0), (.prm .len [(.loc 2)])]), (.bin .Add (.cst (.int 1)) (.bin .Mult (.cst (.int 2)) (.call 2 [(.loc 0), (.cst (.int 9))])))], .ret (.mth .join (.cst (.str "")) [(.prm .sset [(.lc (.idx (.loc 2) (.bin .Mod (.bin .Add (.loc 3) (.bin .Mult (.loc 4) (.loc 5))) (.prm .len [(.loc 2)]))) (.nm 5) .rng1 [(.loc 1)] [] [5] [2, 3, 4, 5])])])]
abbrev d_l_draw_alphabet : Dfn := ⟨[true, false], 4, b_l_draw_alphabet⟩
abbrev i_l_draw_alphabet : Nat := 4
/-- _law_draw_entry -/
def b_l_draw_entry : List IS := [.asg 4 (.lst []), .for (.nm 5) .rng1 [(.loc 1)] [.asg 6 (.ite (.cmp .Eq (.loc 5) (.loc 3)) (.cmp .Gt (.call 2 [(.loc 0), (.cst (.int 6))]) (.cst (.int 0))) (.cmp .Eq (.call 2 [(.loc 0), (.cst (.int 3))]) (.cst (.int 0)))), .exp (.mut .append (.loc 4) [(.ite (.loc 6) (.call 2 [(.loc 0), (.loc 2)]) (.cst .non))])], .ite (.cmp .Eq (.lc (.loc 7) (.nm 7) .val [(.loc 4)] [(.cmp .IsNot (.loc 7) (.cst .non))] [7] [7]) (.lst [])) [.seti (.loc 4) (.bin .Mod (.loc 3) (.loc 1)) (.call 2 [(.loc 0), (.loc 2)])] [], .ret (.prm .tuple [(.loc 4)])]
abbrev d_l_draw_entry : Dfn := ⟨[true, false, false, false], 4, b_l_draw_entry⟩
abbrev i_l_draw_entry : Nat := 5
/-- _law_draw_channel -/
def b_l_draw_channel : List IS := [.asg 4 (.call 4 [(.loc 0), (.bin .Add (.cst (.int 1)) (.call 2 [(.loc 0), (.loc 1)]))]), .asg 5 (.call 4 [(.loc 0), (.bin .Add (.cst (.int 1)) (.call 2 [(.loc 0), (.loc 2)]))]), .par [7, 8] [(.bin .Add (.cst (.int 1)) (.call 2 [(.loc 0), (.loc 3)])), (.lst [])], .for (.nm 6) .rng1 [(.loc 7)] [.asg 9 (.lc (.call 5 [(.loc 0), (.prm .len [(.loc 5)]), (.loc 7), (.bin .Mod (.loc 10) (.prm .len [(.loc 5)]))]) (.nm 10) .rng1 [(.prm .len [(.loc 4)])] [] [10] [0, 5, 7, 10]), .exp (.mut .append (.loc 8) [(.prm .tuple [(.loc 9)])])], .ret (.tup [(.loc 4), (.loc 5), (.prm .tuple [(.loc 8)])])]
abbrev d_l_draw_channel : Dfn := ⟨[true, false, false, false], 7, b_l_draw_channel⟩
abbrev i_l_draw_channel : Nat := 6
/-- _law_lying -/
def b_l_lying : List IS := [.asg 2 (.lst []), .for (.nm 3) .rng1 [(.bin .Add (.loc 1) (.cst (.int 1)))] [.asg 4 (.lst []), .for (.nm 5) .val [(.loc 0)] [.asg 6 (.ite (.cmp .Lt (.loc 3) (.loc 1)) (.bin .Add (.loc 3) (.cst (.int 1))) (.cst .non)), .exp (.mut .append (.loc 4) [(.prm .tuple [(.lc (.ite (.cmp .Eq (.loc 5) (.loc 7)) (.loc 3) (.loc 6)) (.nm 7) .val [(.loc 0)] [] [7] [3, 5, 6, 7])])])], .exp (.mut .append (.loc 2) [(.prm .tuple [(.loc 4)])])], .ret (.tup [(.loc 0), (.loc 0), (.prm .tuple [(.loc 2)])])]
abbrev d_l_lying : Dfn := ⟨[false, false], 6, b_l_lying⟩
abbrev i_l_lying : Nat := 7
/-- _law_any_channel -/
def b_l_any_channel : List IS := [.ite (.cmp .Eq (.call 2 [(.loc 0), (.cst (.int 4))]) (.cst (.int 0))) [.ret (.call 7 [(.call 4 [(.loc 0), (.bin .Add (.cst (.int 2)) (.call 2 [(.loc 0), (.cst (.int 2))]))]), (.call 2 [(.loc 0), (.loc 3)])])] [], .ret (.call 6 [(.loc 0), (.loc 1), (.loc 2), (.loc 3)])]
abbrev d_l_any_channel : Dfn := ⟨[true, false, false, false], 0, b_l_any_channel⟩
abbrev i_l_any_channel : Nat := 8
/-- next_state -/
def b_p_next_state : List IS := [.asgT [4, 5, 6] (.loc 0), .ret (.idx (.idx (.idx (.loc 6) (.loc 1)) (.mth .index (.loc 4) [(.loc 2)])) (.mth .index (.loc 5) [(.loc 3)]))]
abbrev d_p_next_state : Dfn := ⟨[false, false, false, false], 3, b_p_next_state⟩
abbrev i_p_next_state : Nat := 36
/-- is_integer -/
def b_p_is_integer : List IS := [.ret (.and (.isi (.loc 0) [.int]) (.not (.isi (.loc 0) [.bool])))]
abbrev d_p_is_integer : Dfn := ⟨[false], 0, b_p_is_integer⟩
abbrev i_p_is_integer : Nat := 18
/-- is_index -/
def b_p_is_index : List IS := [.ret (.and (.call 18 [(.loc 0)]) (.chn .LtE .Lt (.cst (.int 0)) (.loc 0) (.loc 1)))]
abbrev d_p_is_index : Dfn := ⟨[false, false], 0, b_p_is_index⟩
abbrev i_p_is_index : Nat := 19
/-- is_alphabet -/
def b_p_is_alphabet : List IS := [.ite (.or (.not (.isi (.loc 0) [.str])) (.not (.chn .LtE .LtE (.cst (.int 1)) (.prm .len [(.loc 0)]) (.cst (.int 4))))) [.ret (.cst (.bl false))] [], .ite (.not (.prm .all [(.lc (.chn .LtE .LtE (.cst (.str "!")) (.loc 1) (.cst (.str "~"))) (.nm 1) .val [(.loc 0)] [] [1] [1])])) [.ret (.cst (.bl false))] [], .ret (.cmp .Eq (.prm .list [(.loc 0)]) (.prm .sset [(.loc 0)]))]
abbrev d_p_is_alphabet : Dfn := ⟨[false], 1, b_p_is_alphabet⟩
abbrev i_p_is_alphabet : Nat := 20
/-- is_entry -/
def b_p_is_entry : List IS := [.ite (.or (.not (.isi (.loc 0) [.tuple])) (.cmp .NotEq (.prm .len [(.loc 0)]) (.prm .len [(.loc 1)]))) [.ret (.cst (.bl false))] [], .ret (.and (.prm .any [(.lc (.cmp .IsNot (.loc 3) (.cst .non)) (.nm 3) .val [(.loc 0)] [] [3] [3])]) (.prm .all [(.lc (.or (.cmp .Is (.loc 3) (.cst .non)) (.call 19 [(.loc 3), (.loc 2)])) (.nm 3) .val [(.loc 0)] [] [3] [2, 3])]))]
abbrev d_p_is_entry : Dfn := ⟨[false, false, false], 1, b_p_is_entry⟩
abbrev i_p_is_entry : Nat := 21
/-- is_state -/
def b_p_is_state : List IS := [.ite (.or (.not (.isi (.loc 0) [.tuple])) (.cmp .NotEq (.prm .len [(.loc 0)]) (.prm .len [(.loc 1)]))) [.ret (.cst (.bl false))] [], .ret (.prm .all [(.lc (.call 21 [(.loc 4), (.loc 2), (.loc 3)]) (.nm 4) .val [(.loc 0)] [] [4] [2, 3, 4])])]
abbrev d_p_is_state : Dfn := ⟨[false, false, false, false], 1, b_p_is_state⟩
abbrev i_p_is_state : Nat := 22
/-- is_channel -/
def b_p_is_channel : List IS := [.ite (.or (.not (.isi (.loc 0) [.tuple])) (.cmp .NotEq (.prm .len [(.loc 0)]) (.cst (.int 3)))) [.ret (.cst (.bl false))] [], .asgT [1, 2, 3] (.loc 0), .ite (.or (.not (.call 20 [(.loc 1)])) (.or (.not (.call 20 [(.loc 2)])) (.not (.isi (.loc 3) [.tuple])))) [.ret (.cst (.bl false))] [], .ite (.not (.chn .LtE .LtE (.cst (.int 1)) (.prm .len [(.loc 3)]) (.cst (.int 4)))) [.ret (.cst (.bl false))] [], .ret (.prm .all [(.lc (.call 22 [(.loc 4), (.loc 1), (.loc 2), (.prm .len [(.loc 3)])]) (.nm 4) .val [(.loc 3)] [] [4] [1, 2, 3, 4])])]
abbrev d_p_is_channel : Dfn := ⟨[false], 4, b_p_is_channel⟩
abbrev i_p_is_channel : Nat := 23
/-- transitions -/
def b_p_transitions : List IS := [.asg 3 (.lc (.tup [(.loc 4), (.call 36 [(.loc 0), (.loc 1), (.loc 2), (.loc 4)])]) (.nm 4) .val [(.idx (.loc 0) (.cst (.int 1)))] [] [4] [0, 1, 2, 4]), .ret (.lc (.loc 5) (.nm 5) .val [(.loc 3)] [(.cmp .IsNot (.idx (.loc 5) (.cst (.int 1))) (.cst .non))] [5] [5])]
abbrev d_p_transitions : Dfn := ⟨[false, false, false], 3, b_p_transitions⟩
abbrev i_p_transitions : Nat := 37
/-- next_lies -/
def b_p_next_lies : List IS := [.ite (.loc 2) [.ret (.loc 0)] [], .ret (.ite (.cmp .Lt (.loc 0) (.loc 1)) (.bin .Add (.loc 0) (.cst (.int 1))) (.cst .non))]
abbrev d_p_next_lies : Dfn := ⟨[false, false, false], 0, b_p_next_lies⟩
abbrev i_p_next_lies : Nat := 34
/-- lying_channel -/
def b_p_lying_channel : List IS := [.asg 2 (.lst []), .for (.nm 3) .rng1 [(.bin .Add (.loc 1) (.cst (.int 1)))] [.asg 4 (.lst []), .for (.nm 5) .val [(.loc 0)] [.exp (.mut .append (.loc 4) [(.prm .tuple [(.lc (.call 34 [(.loc 3), (.loc 1), (.cmp .Eq (.loc 5) (.loc 6))]) (.nm 6) .val [(.loc 0)] [] [6] [1, 3, 5, 6])])])], .exp (.mut .append (.loc 2) [(.prm .tuple [(.loc 4)])])], .ret (.tup [(.loc 0), (.loc 0), (.prm .tuple [(.loc 2)])])]
abbrev d_p_lying_channel : Dfn := ⟨[false, false], 5, b_p_lying_channel⟩
abbrev i_p_lying_channel : Nat := 35
end Py
/-! Operations on known data, as equations. -/
namespace Py
open PySem PySem.Spec PyProof.Rows L2
theorem Opt_iteN {α : Type} {c : Prop} [Decidable c] {a : Option α} {Q : α → Prop} : Opt (if c then a else none) Q = (c ∧ Opt a Q) := by
  rw [Opt_ite]
  by_cases h : c <;> simp [h, Opt]
/-- two ways that meet again -/
theorem iteP_join {α : Type} {b : Bool} {o1 o2 : Option α} {K : α → Prop} (P : α → Prop) (h1 : b = true → Opt o1 P) (h2 : b = false → Opt o2 P) (h : ∀ a, P a → K a) : iteP b (Opt o1 K) (Opt o2 K) :=
  iteP_split (fun c => Opt_mono (h1 c) h) fun c => Opt_mono (h2 c) h
def nsset : Prim → Bool
  | .sset => false
  | .lrange => false
  | .trange => false
  | _ => true
def isNop : IE → Bool
  | .nop => true
  | _ => false
theorem il_cst (d : D) : isLoc (.cst d) = none := Eq.trans (rfl : _ = none) rfl
theorem in_cst (d : D) : isNop (.cst d) = false := Eq.trans (rfl : _ = false) rfl
theorem il_fld (o : IE) (f : Nat) : isLoc (.fld o f) = none := Eq.trans (rfl : _ = none) rfl
theorem in_fld (o : IE) (f : Nat) : isNop (.fld o f) = false := Eq.trans (rfl : _ = false) rfl
theorem il_nop  : isLoc (.nop ) = none := Eq.trans (rfl : _ = none) rfl
theorem il_tup (es : List IE) : isLoc (.tup es) = none := Eq.trans (rfl : _ = none) rfl
theorem in_tup (es : List IE) : isNop (.tup es) = false := Eq.trans (rfl : _ = false) rfl
theorem il_lst (es : List IE) : isLoc (.lst es) = none := Eq.trans (rfl : _ = none) rfl
theorem in_lst (es : List IE) : isNop (.lst es) = false := Eq.trans (rfl : _ = false) rfl
theorem il_dic (ks vs : List IE) : isLoc (.dic ks vs) = none := Eq.trans (rfl : _ = none) rfl
theorem in_dic (ks vs : List IE) : isNop (.dic ks vs) = false := Eq.trans (rfl : _ = false) rfl
theorem il_bin (o : Operator) (a b : IE) : isLoc (.bin o a b) = none := Eq.trans (rfl : _ = none) rfl
theorem in_bin (o : Operator) (a b : IE) : isNop (.bin o a b) = false := Eq.trans (rfl : _ = false) rfl
theorem il_neg (a : IE) : isLoc (.neg a) = none := Eq.trans (rfl : _ = none) rfl
theorem in_neg (a : IE) : isNop (.neg a) = false := Eq.trans (rfl : _ = false) rfl
theorem il_not (a : IE) : isLoc (.not a) = none := Eq.trans (rfl : _ = none) rfl
theorem in_not (a : IE) : isNop (.not a) = false := Eq.trans (rfl : _ = false) rfl
theorem il_cmp (o : CmpOp) (a b : IE) : isLoc (.cmp o a b) = none := Eq.trans (rfl : _ = none) rfl
theorem in_cmp (o : CmpOp) (a b : IE) : isNop (.cmp o a b) = false := Eq.trans (rfl : _ = false) rfl
theorem il_chn (o p : CmpOp) (a b c : IE) : isLoc (.chn o p a b c) = none := Eq.trans (rfl : _ = none) rfl
theorem in_chn (o p : CmpOp) (a b c : IE) : isNop (.chn o p a b c) = false := Eq.trans (rfl : _ = false) rfl
theorem il_and (a b : IE) : isLoc (.and a b) = none := Eq.trans (rfl : _ = none) rfl
theorem in_and (a b : IE) : isNop (.and a b) = false := Eq.trans (rfl : _ = false) rfl
theorem il_or (a b : IE) : isLoc (.or a b) = none := Eq.trans (rfl : _ = none) rfl
theorem in_or (a b : IE) : isNop (.or a b) = false := Eq.trans (rfl : _ = false) rfl
theorem il_ite (c a b : IE) : isLoc (.ite c a b) = none := Eq.trans (rfl : _ = none) rfl
theorem in_ite (c a b : IE) : isNop (.ite c a b) = false := Eq.trans (rfl : _ = false) rfl
theorem il_call (f : Nat) (es : List IE) : isLoc (.call f es) = none := Eq.trans (rfl : _ = none) rfl
theorem in_call (f : Nat) (es : List IE) : isNop (.call f es) = false := Eq.trans (rfl : _ = false) rfl
theorem il_ocall (o : IE) (m : Nat) (es : List IE) : isLoc (.ocall o m es) = none := Eq.trans (rfl : _ = none) rfl
theorem in_ocall (o : IE) (m : Nat) (es : List IE) : isNop (.ocall o m es) = false := Eq.trans (rfl : _ = false) rfl
theorem il_make (c : Nat) (es : List IE) : isLoc (.make c es) = none := Eq.trans (rfl : _ = none) rfl
theorem in_make (c : Nat) (es : List IE) : isNop (.make c es) = false := Eq.trans (rfl : _ = false) rfl
theorem il_prm (p : Prim) (es : List IE) : isLoc (.prm p es) = none := Eq.trans (rfl : _ = none) rfl
theorem in_prm (p : Prim) (es : List IE) : isNop (.prm p es) = false := Eq.trans (rfl : _ = false) rfl
theorem il_isi (a : IE) (ts : List Ty) : isLoc (.isi a ts) = none := Eq.trans (rfl : _ = none) rfl
theorem in_isi (a : IE) (ts : List Ty) : isNop (.isi a ts) = false := Eq.trans (rfl : _ = false) rfl
theorem il_idx (a b : IE) : isLoc (.idx a b) = none := Eq.trans (rfl : _ = none) rfl
theorem in_idx (a b : IE) : isNop (.idx a b) = false := Eq.trans (rfl : _ = false) rfl
theorem il_slc (a lo hi : IE) : isLoc (.slc a lo hi) = none := Eq.trans (rfl : _ = none) rfl
theorem in_slc (a lo hi : IE) : isNop (.slc a lo hi) = false := Eq.trans (rfl : _ = false) rfl
theorem il_rev (a : IE) : isLoc (.rev a) = none := Eq.trans (rfl : _ = none) rfl
theorem in_rev (a : IE) : isNop (.rev a) = false := Eq.trans (rfl : _ = false) rfl
theorem il_mth (m : Mth) (o : IE) (es : List IE) : isLoc (.mth m o es) = none := Eq.trans (rfl : _ = none) rfl
theorem in_mth (m : Mth) (o : IE) (es : List IE) : isNop (.mth m o es) = false := Eq.trans (rfl : _ = false) rfl
theorem il_mut (m : Mut) (o : IE) (es : List IE) : isLoc (.mut m o es) = none := Eq.trans (rfl : _ = none) rfl
theorem in_mut (m : Mut) (o : IE) (es : List IE) : isNop (.mut m o es) = false := Eq.trans (rfl : _ = false) rfl
theorem il_lc (elt : IE) (tg : Tg) (k : IK) (src ifs : List IE) (own vis : List Nat) : isLoc (.lc elt tg k src ifs own vis) = none := Eq.trans (rfl : _ = none) rfl
theorem in_lc (elt : IE) (tg : Tg) (k : IK) (src ifs : List IE) (own vis : List Nat) : isNop (.lc elt tg k src ifs own vis) = false := Eq.trans (rfl : _ = false) rfl
theorem in_loc (i : Nat) : isNop (.loc i) = false := Eq.trans (rfl : _ = false) rfl
theorem ns_len : nsset .len = true := Eq.trans (rfl : _ = true) rfl
theorem ns_sum : nsset .sum = true := Eq.trans (rfl : _ = true) rfl
theorem ns_min : nsset .min = true := Eq.trans (rfl : _ = true) rfl
theorem ns_max : nsset .max = true := Eq.trans (rfl : _ = true) rfl
theorem ns_min2 : nsset .min2 = true := Eq.trans (rfl : _ = true) rfl
theorem ns_max2 : nsset .max2 = true := Eq.trans (rfl : _ = true) rfl
theorem ns_sorted : nsset .sorted = true := Eq.trans (rfl : _ = true) rfl
theorem ns_all : nsset .all = true := Eq.trans (rfl : _ = true) rfl
theorem ns_any : nsset .any = true := Eq.trans (rfl : _ = true) rfl
theorem ns_list : nsset .list = true := Eq.trans (rfl : _ = true) rfl
theorem ns_tuple : nsset .tuple = true := Eq.trans (rfl : _ = true) rfl
theorem ns_dict : nsset .dict = true := Eq.trans (rfl : _ = true) rfl
theorem ns_int : nsset .int = true := Eq.trans (rfl : _ = true) rfl
theorem ns_abs : nsset .abs = true := Eq.trans (rfl : _ = true) rfl
theorem ns_repr : nsset .repr = true := Eq.trans (rfl : _ = true) rfl
theorem ns_lset : nsset .lset = true := Eq.trans (rfl : _ = true) rfl
section
variable {T : Tab} {Φ : Nat → FnSem} {F : Nat} {en : Stt} {Q : R → Prop}
theorem E_prm' {p es} (hp : nsset p = true) : Opt (evE T Φ (.prm p es) en) Q = Opt (evArgs T Φ es en) (kP fun avs e1 => Opt (avDats e1 avs) fun ds => Opt (primX p ds) (kP fun r fr => Q ⟨r, fr, e1⟩)) := E_prm (by rintro rfl; cases hp) (by rintro rfl; cases hp) (by rintro rfl; cases hp)
theorem pt_e' {ir ev} {Q : Option Int × Stt → Prop} (h : isNop ir = false) : Opt (ptOf ir ev en) Q = Opt (ev en) (intK fun i en' => Q (some i, en')) := pt_e (by rintro rfl; cases h)
end
section
variable (l : List Slot) (o : List Ob) (i : Nat) (s : Slot) (d : D) (a : Slot)
theorem set_mk : Stt.set ⟨l, o⟩ i s = ⟨l.set i s, o⟩ := rfl
theorem at_mk : Stt.at ⟨l, o⟩ (.loc i) = l.getD i .no := rfl
theorem getD0 : (a :: l).getD 0 .no = a := rfl
theorem getDs : (a :: l).getD (i + 1) .no = l.getD i .no := rfl
theorem dat_sh : Slot.dat (.sh d) = some d := rfl
theorem dat_ow : Slot.dat (.ow d) = some d := rfl
theorem dat_io : Slot.dat (.io d) = some d := rfl
theorem own_sh : Slot.own (.sh d) = false := rfl
theorem own_ow : Slot.own (.ow d) = true := rfl
theorem own_io : Slot.own (.io d) = true := rfl
theorem own_no : Slot.own .no = false := rfl
theorem upd_ow (d' : D) : Slot.upd (.ow d) d' = .ow d' := rfl
theorem upd_io (d' : D) : Slot.upd (.io d) d' = .io d' := rfl
theorem avdat_val (en : Stt) (fr : Bool) : AV.dat en (.val d fr) = some d := rfl
theorem avdat_pl (en : Stt) (x : Pl) : AV.dat en (.pl x) = (en.at x).dat := rfl
/-- may the slot be stored to -/
def putOk : Option Slot → Bool
  | some (.io _) => false
  | some _ => true
  | none => false
theorem canPut_eq (en : Stt) : canPut en i = putOk en.loc[i]? := by
  unfold canPut putOk
  cases en.loc[i]? with
  | none => rfl
  | some s => cases s <;> rfl
/-- a slot that holds a shared thing, or nothing -/
def vS : Option D → Slot
  | none => .no
  | some d => .sh d
theorem putOk_vS (o : Option D) : putOk (some (vS o)) = true := by cases o <;> rfl
/-- a slot that holds an owned thing, or nothing -/
def oS : Option D → Slot
  | none => .no
  | some d => .ow d
theorem putOk_oS (o : Option D) : putOk (some (oS o)) = true := by cases o <;> rfl
theorem slen (z : Str) : z.length = z.cps.size := rfl
theorem putOk_no : putOk (some .no) = true := rfl
theorem putOk_sh (d : D) : putOk (some (.sh d)) = true := rfl
theorem putOk_ow (d : D) : putOk (some (.ow d)) = true := rfl
theorem vS_no : Slot.no = vS none := rfl
theorem vS_sh : Slot.sh d = vS (some d) := rfl
def frS (fr : Bool) (d : D) : Slot := if fr then .ow d else .sh d
theorem frS_t : frS true d = .ow d := rfl
theorem frS_f : frS false d = .sh d := rfl
theorem putO_eq (en : Stt) (fr : Bool) (K : Stt → Prop) : Opt (putO en i fr d) K = (putOk en.loc[i]? = true ∧ Opt (nrm ⟨en.loc.set i (frS fr d), en.obs⟩) K) := by
  unfold putO
  rw [Opt_ite, canPut_eq]
  by_cases c : putOk en.loc[i]? = true <;> simp [c, Opt, put, Stt.set, frS, nrm]
theorem asg_nm (en : Stt) (K : Stt → Prop) : Opt (asgTg en d (.nm i)) K = (putOk en.loc[i]? = true ∧ Opt (nrm ⟨en.loc.set i (.sh d), en.obs⟩) K) := putO_eq i d en false K
theorem asg_tup (en : Stt) (is : List Nat) (ds : List D) : asgTg en (.tup ds) (.tp is) = putL en is ds := rfl
theorem asg_lst (en : Stt) (is : List Nat) (ds : List D) : asgTg en (.lst ds) (.tp is) = putL en is ds := rfl
theorem putL_nil (en : Stt) : putL en [] [] = some en := rfl
theorem putL_cons (en : Stt) (is : List Nat) (ds : List D) (K : Stt → Prop) : Opt (putL en (i :: is) (d :: ds)) K = (putOk en.loc[i]? = true ∧ Opt (nrm ⟨en.loc.set i (.sh d), en.obs⟩) fun e => Opt (putL e is ds) K) := by
  show Opt (match putO en i false d with | some en' => putL en' is ds | none => none) K = _
  refine Eq.trans ?_ (putO_eq i d en false (fun en' => Opt (putL en' is ds) K))
  cases putO en i false d <;> rfl
theorem putF_nil (en : Stt) : putF en [] [] = some en := rfl
theorem putF_cons (en : Stt) (fr : Bool) (is : List Nat) (ds : List (D × Bool)) (K : Stt → Prop) : Opt (putF en (i :: is) ((d, fr) :: ds)) K = (putOk en.loc[i]? = true ∧ Opt (nrm ⟨en.loc.set i (frS fr d), en.obs⟩) fun e => Opt (putF e is ds) K) := by
  show Opt (match putO en i fr d with | some en' => putF en' is ds | none => none) K = _
  rw [← putO_eq i d en fr (fun en' => Opt (putF en' is ds) K)]
  cases putO en i fr d <;> rfl
theorem wipeT_mk (own : List Nat) : wipeT own ⟨l, o⟩ = ⟨wipeE l own, o⟩ := rfl
theorem wipe_nil : wipeE l [] = l := rfl
theorem wipe_cons (v : Nat) (vs : List Nat) : wipeE l (v :: vs) = (wipeE l vs).set v .no := rfl
theorem back_nil (l0 : List Slot) : backE l0 l [] = l := rfl
def shO : Option Slot → Slot
  | some (.sh d) => .sh d
  | _ => .no
theorem shO_sh : shO (some (.sh d)) = .sh d := rfl
theorem shO_no : shO (some .no) = .no := rfl
theorem shO_ow : shO (some (.ow d)) = .no := rfl
theorem back_cons (l0 : List Slot) (v : Nat) (vs : List Nat) : backE l0 l (v :: vs) = (backE l0 l vs).set v (shO l0[v]?) := by
  show (backE l0 l vs).set v (match l0[v]? with | some (.sh d) => .sh d | _ => .no) = _
  unfold shO
  cases l0[v]? with
  | none => rfl
  | some s => cases s <;> rfl
end
theorem dats_nil {en : Stt} : avDats en [] = some [] := rfl
theorem dats_cons {en : Stt} {a : AV} {r : List AV} {K : List D → Prop} : Opt (avDats en (a :: r)) K = Opt (a.dat en) fun d => Opt (avDats en r) fun ds => K (d :: ds) := by
  show Opt (match a.dat en, avDats en r with | some d, some ds => some (d :: ds) | _, _ => none) K = _
  cases a.dat en with
  | none => rfl
  | some d => cases avDats en r <;> rfl
section
variable (en : Stt) (K : Stt → Prop) (d : D) (avs : List AV) (io : List Bool) (outs : List D)
theorem io_nil : ioC [] [] [] en = some en := rfl
theorem io_skip (a : AV) : ioC (a :: avs) (false :: io) outs en = ioC avs io outs en := by
  cases a with
  | val d b => cases b <;> simp [ioC]
  | pl x => cases x <;> simp [ioC]
theorem io_new : ioC (.val d true :: avs) (true :: io) (d2 :: outs) en = ioC avs io outs en := by simp [ioC]
def ioK (en : Stt) (i : Nat) (d : D) (k : Stt → Option Stt) (s : Slot) : Option Stt := match s with
  | .ow _ => k (en.set i (.ow d))
  | .io _ => k (en.set i (.io d))
  | _ => none
theorem ioK_ow (i d d0) (k : Stt → Option Stt) : ioK en i d k (.ow d0) = k (en.set i (.ow d)) := rfl
theorem ioK_io (i d d0) (k : Stt → Option Stt) : ioK en i d k (.io d0) = k (en.set i (.io d)) := rfl
theorem io_pl (i : Nat) : ioC (.pl (.loc i) :: avs) (true :: io) (d :: outs) en = ioK en i d (ioC avs io outs) (en.at (.loc i)) := by
  unfold ioK
  conv => lhs; unfold ioC
  all_goals (cases en.at (.loc i) <;> rfl)
end
theorem outs_nil {l : List Slot} : outsOf [] l = some [] := rfl
theorem outs_t {io : List Bool} {d : D} {l : List Slot} {K : List D → Prop} : Opt (outsOf (true :: io) (.io d :: l)) K = Opt (outsOf io l) fun ds => K (d :: ds) := by
  show Opt ((outsOf io l).map (d :: ·)) K = _
  rw [Opt_map]
theorem outs_f {io : List Bool} {s : Slot} {l : List Slot} : outsOf (false :: io) (s :: l) = outsOf io l := rfl
theorem par_t {io : List Bool} {d : D} {ds : List D} : parS (true :: io) (d :: ds) = .io d :: parS io ds := rfl
theorem par_f {io : List Bool} {d : D} {ds : List D} : parS (false :: io) (d :: ds) = .sh d :: parS io ds := rfl
theorem par_nil : parS [] [] = [] := rfl
/-! data -/
section
variable (i j : Int) (x y : Str) (xs ys : List D) (a b d e : D) (p q : Bool)
theorem b_add : binD .Add (.int i) (.int j) = some (.int (i + j), false) := rfl
theorem b_sub : binD .Sub (.int i) (.int j) = some (.int (i - j), false) := rfl
theorem b_mul : binD .Mult (.int i) (.int j) = if mulOk i j then some (.int (i * j), false) else none := rfl
theorem b_mod : binD .Mod (.int i) (.int j) = if j ≠ 0 then some (.int (i.fmod j), false) else none := rfl
theorem b_div : binD .FloorDiv (.int i) (.int j) = if j ≠ 0 ∧ j.natAbs < 1073741824 then some (.int (i.fdiv j), false) else none := rfl
theorem b_pow : binD .Pow (.int i) (.int j) = if 0 ≤ j ∧ j ≤ 1000000 ∧ i.natAbs < 2 ^ 64 then some (.int (i ^ j.toNat), false) else none := rfl
theorem b_addS : binD .Add (.str x) (.str y) = if x.length + y.length ≤ lim then some (.str (x ++ y), false) else none := rfl
theorem b_addT : binD .Add (.tup xs) (.tup ys) = if xs.length + ys.length ≤ lim then some (.tup (xs ++ ys), false) else none := rfl
theorem b_addL : binD .Add (.lst xs) (.lst ys) = if xs.length + ys.length ≤ lim then some (.lst (xs ++ ys), true) else none := rfl
theorem b_mulL : binD .Mult (.lst xs) (.int j) = if j < 2 ^ 63 ∧ -(2 ^ 63) ≤ j ∧ xs.length * j.toNat ≤ lim then some (.lst (repD xs j), true) else none := rfl
theorem b_mulT : binD .Mult (.tup xs) (.int j) = if -1000 ≤ j ∧ j ≤ 1000 ∧ xs.length ≤ 1000 then some (.tup (repD xs j), false) else none := rfl
theorem r_lst : revD (.lst xs) = some (.lst xs.reverse, true) := rfl
theorem r_tup : revD (.tup xs) = some (.tup xs.reverse, false) := rfl
theorem r_str : revD (.str x) = if x.length ≤ lim then some (.str ⟨x.cps.toList.reverse.toArray⟩, false) else none := rfl
theorem c_lt : cmpX .Lt (.int i) (.int j) = some (decide (i < j)) := rfl
theorem c_le : cmpX .LtE (.int i) (.int j) = some (decide (i ≤ j)) := rfl
theorem c_gt : cmpX .Gt (.int i) (.int j) = some (decide (j < i)) := rfl
theorem c_ge : cmpX .GtE (.int i) (.int j) = some (decide (j ≤ i)) := rfl
theorem c_ltS : cmpX .Lt (.str x) (.str y) = some (ltS x y) := rfl
theorem c_leS : cmpX .LtE (.str x) (.str y) = some (!ltS y x) := rfl
theorem c_isB : cmpX .Is (.bl p) (.bl q) = some (decide (p = q)) := rfl
theorem c_isntB : cmpX .IsNot (.bl p) (.bl q) = some (!decide (p = q)) := rfl
theorem c_is : cmpX .Is a .non = some (isNonD a) := by cases a <;> rfl
theorem c_isnt : cmpX .IsNot a .non = some (!isNonD a) := by cases a <;> rfl
theorem c_eq : cmpX .Eq a b = if okE 60 a && okE 60 b then some (eqD a b) else none := by cases a <;> cases b <;> rfl
theorem c_ne : cmpX .NotEq a b = if okE 60 a && okE 60 b then some (!eqD a b) else none := by cases a <;> cases b <;> rfl
theorem c_in : cmpX .In a (.lst ys) = if okE 60 a && okE 60 (.lst ys) then some (inD a ys) else none := by cases a <;> rfl
theorem c_notin : cmpX .NotIn a (.lst ys) = if okE 60 a && okE 60 (.lst ys) then some (!inD a ys) else none := by cases a <;> rfl
theorem x_lst : idxD (.lst xs) (.int i) = atI xs i := rfl
theorem x_tup : idxD (.tup xs) (.int i) = atI xs i := rfl
theorem x_str : idxD (.str x) (.int i) = if x.length ≤ lim then (atI x.cps.toList i).map fun c => .str ⟨#[c]⟩ else none := rfl
theorem p_lenL : primX .len [.lst xs] = some (.int xs.length, false) := rfl
theorem p_lenT : primX .len [.tup xs] = some (.int xs.length, false) := rfl
theorem p_lenS : primX .len [.str x] = if x.length ≤ lim then some (.int x.length, false) else none := rfl
theorem p_all : primX .all [.lst xs] = (asBls xs).map fun bs => (.bl (bs.all id), false) := rfl
theorem p_any : primX .any [.lst xs] = (asBls xs).map fun bs => (.bl (bs.any id), false) := rfl
theorem p_tupL : primX .tuple [.lst xs] = some (.tup xs, false) := rfl
theorem p_tupT : primX .tuple [.tup xs] = some (.tup xs, false) := rfl
theorem p_lstL : primX .list [.lst xs] = some (.lst xs, true) := rfl
theorem p_lstT : primX .list [.tup xs] = some (.lst xs, true) := rfl
theorem p_lstS : primX .list [.str x] = if x.cps.size ≤ lim then some (.lst (chars x), true) else none := rfl
theorem p_lstF : primX .list [.fz xs] = some (.lst xs, true) := rfl
theorem p_sum : primX .sum [.lst xs] = match asInts xs with
    | some ns => some (.int ns.sum, false)
    | none => none := rfl
theorem p_repT : primX .repr [.tup xs] = if okR 60 (.tup xs) && (toPy (.tup xs)).showable && decide ((toPy (.tup xs)).shown.length ≤ lim) then some (.str (toPy (.tup xs)).shown, false) else none := rfl
theorem p_repL : primX .repr [.lst xs] = if okR 60 (.lst xs) && (toPy (.lst xs)).showable && decide ((toPy (.lst xs)).shown.length ≤ lim) then some (.str (toPy (.lst xs)).shown, false) else none := rfl
theorem m_app : mutD .append (.lst xs) [d] = if xs.length < lim then some (.lst (xs ++ [d]), .non) else none := rfl
theorem m_ext : mutD .extend (.lst xs) [.lst ys] = if xs.length + ys.length ≤ lim then some (.lst (xs ++ ys), .non) else none := rfl
theorem s_lst : setD (.lst xs) (.int i) d = match ixN xs.length i with
    | some j => some (.lst (xs.set j d))
    | none => none := rfl
theorem g_add : augD .Add (.int i) (.int j) = some (.int (i + j)) := rfl
theorem k_lst : sameK (.lst xs) (.lst ys) = true := rfl
theorem k_str : sameK (.str x) (.str y) = true := rfl
theorem k_tup : sameK (.tup xs) (.tup ys) = true := rfl
theorem i_lst : itemsD (.lst xs) = some xs := rfl
theorem i_tup : itemsD (.tup xs) = some xs := rfl
theorem i_str : itemsD (.str x) = if x.cps.size ≤ lim then some (chars x) else none := rfl
theorem l_fz (lo hi : Option Int) : slD (.fz xs) lo hi = some (.lst (cutL xs lo hi), true) := rfl
theorem l_lst (lo hi : Option Int) : slD (.lst xs) lo hi = some (.lst (cutL xs lo hi), true) := rfl
theorem l_tup (lo hi : Option Int) : slD (.tup xs) lo hi = some (.tup (cutL xs lo hi), false) := rfl
theorem l_str (lo hi : Option Int) : slD (.str x) lo hi = if x.length ≤ lim then some (.str (cutS x lo hi), false) else none := rfl
theorem t_nil : tysD d [] = some [] := rfl
theorem t_cons (t : Ty) (ts : List Ty) (K : List Bool → Prop) : Opt (tysD d (t :: ts)) K = Opt (tyOf d t) fun b => Opt (tysD d ts) fun bs => K (b :: bs) := by
  show Opt (match tyOf d t, tysD d ts with | some b, some bs => some (b :: bs) | _, _ => none) K = _
  cases tyOf d t with
  | none => rfl
  | some b => cases tysD d ts <;> rfl
end
theorem at_nat {α : Type} {xs : List α} {i : Nat} : atI xs (i : Int) = xs[i]? := by
  unfold atI ixN
  rw [if_pos (by omega)]
  by_cases h : (i : Int) < (xs.length : Int)
  · rw [if_pos h]; rfl
  · rw [if_neg h, List.getElem?_eq_none (by omega)]; rfl
theorem at_lit {α : Type} {xs : List α} {i : Nat} : atI xs (no_index (OfNat.ofNat i)) = xs[i]? := at_nat
theorem nabs_lit {n : Nat} : Int.natAbs (no_index (OfNat.ofNat n)) = n := rfl
theorem ix_nat {n i : Nat} : ixN n (i : Int) = if i < n then some i else none := by
  unfold ixN
  rw [if_pos (by omega)]
  by_cases h : i < n
  · rw [if_pos (by omega), if_pos h]; rfl
  · rw [if_neg (by omega), if_neg h]
theorem set_nat {xs : List D} {i : Nat} {d : D} : setD (.lst xs) (.int (i : Int)) d = if i < xs.length then some (.lst (xs.set i d)) else none := by
  rw [s_lst, ix_nat]
  by_cases h : i < xs.length
  · rw [if_pos h, if_pos h]
  · rw [if_neg h, if_neg h]
theorem set_lit {xs : List D} {i : Nat} {d : D} : setD (.lst xs) (.int (no_index (OfNat.ofNat i))) d = if i < xs.length then some (.lst (xs.set i d)) else none := set_nat
/-- a def stands in the table -/
class HasD (T : Tab) (dfs : outParam (Nat → Option Dfn)) (f : Nat) (d : outParam Dfn) (kp : outParam Bool) : Prop where
  io : T.io f = d.io
  ob : T.ob f = false
  kp : T.kp f = kp
  df : dfs f = some d
theorem Phi_s {T : Tab} {F : Nat} {dfs : Nat → Option Dfn} {k f : Nat} {d : Dfn} {b : Bool} (h : HasD T dfs f d b) : Phi T F dfs (k + 1) f = fnE T (Phi T F dfs k) F d.io d.n d.body := by
  show (match dfs f with | some d => fnE T (Phi T F dfs k) F d.io d.n d.body | none => fun _ _ => none) = _
  rw [h.df]
/-- a def, one level down -/
theorem Phi_q {T : Tab} {F : Nat} {dfs : Nat → Option Dfn} {k f : Nat} {d : Dfn} {b : Bool} [h : HasD T dfs f d b] {ds : List D} {Q : Ret → Prop} (hk : 1 ≤ k) (g : ∀ j, k = j + 1 → Opt (nrm (⟨parS d.io ds ++ List.replicate d.n .no, []⟩ : Stt)) fun en => Opt (evSs T (Phi T F dfs j) F d.body en) (endK d.io Q)) : Opt (Phi T F dfs k f ds []) Q := by
  obtain ⟨k, rfl⟩ : ∃ j, k = j + 1 := ⟨k - 1, by omega⟩
  rw [Phi_s h, fn_q]
  exact g k rfl
theorem E_callC {T : Tab} {Φ : Nat → FnSem} {dfs : Nat → Option Dfn} {f : Nat} {d : Dfn} {kp : Bool} [h : HasD T dfs f d kp] {es : List IE} {en : Stt} {Q : R → Prop} :
    Opt (evE T Φ (.call f es) en) Q = Opt (evCArgs T Φ d.io kp es en) (kP fun avs e1 => ((avPls avs).Nodup ∧ frN avs ≤ 1 ∧ (avPls avs).all (fun x => (e1.at x).own) = true) ∧ Opt (avDats e1 avs) fun ds => ds.all (noO 40) = true ∧
      Opt (Φ f ds []) (kRet fun r fr outs obs => (noO 40 r = true ∧ outs.all (noO 40) = true ∧ (kp = false ∨ keepOk ⟨r, fr, outs, obs⟩ = true)) ∧ Opt (ioC avs d.io outs e1) fun en' => Q ⟨r, fr, en'⟩)) := by
  rw [E_call, h.io, h.kp, h.ob, Bool.not_false, Bool.and_true]
  refine Opt_ext fun p => ?_
  unfold kP
  dsimp only
  rw [callF_q h.ob, h.io, h.kp]
theorem noO_int (n : Nat) (i : Int) : noO n (.int i) = true := by cases n <;> rfl
theorem noO_bl (n : Nat) (i : Bool) : noO n (.bl i) = true := by cases n <;> rfl
theorem noO_non (n : Nat) : noO n .non = true := by cases n <;> rfl
theorem noO_str (n : Nat) (i : Str) : noO n (.str i) = true := by cases n <;> rfl
theorem noO_lst (n : Nat) (l : List D) : noO (n + 1) (.lst l) = l.all (noO n) := by rfl
theorem noO_tup (n : Nat) (l : List D) : noO (n + 1) (.tup l) = l.all (noO n) := by rfl
/-- the pen: its cells, its place, what is carried -/
structure Pen where
  cells : List Int
  at_ : Nat
  carry : Nat
def Pen.d (p : Pen) : D := .lst [.lst (p.cells.map .int), .int p.at_, .int p.carry]
theorem noO_ints (n : Nat) (l : List Int) : (l.map D.int).all (noO n) = true := by
  induction l with
  | nil => rfl
  | cons a l ih => rw [List.map_cons, List.all_cons, ih]; cases n <;> rfl
theorem noO_pen (p : Pen) : noO 40 p.d = true := by
  unfold Pen.d
  rw [noO_lst, List.all_cons, List.all_cons, List.all_cons, noO_lst, noO_ints, noO_int, noO_int]
  rfl
theorem okE_tup' (n : Nat) (l : List D) : okE (n + 1) (.tup l) = l.all (okE n) := rfl
theorem okE_lst' (n : Nat) (l : List D) : okE (n + 1) (.lst l) = l.all (okE n) := rfl
theorem okE_int (n : Nat) (i : Int) : okE n (.int i) = true := by cases n <;> rfl
theorem okE_bl (n : Nat) (i : Bool) : okE n (.bl i) = true := by cases n <;> rfl
theorem okE_non (n : Nat) : okE n .non = true := by cases n <;> rfl
theorem eq_int (i j : Int) : eqD (.int i) (.int j) = decide (i = j) := by unfold eqD; by_cases h : i = j <;> simp [h]
theorem eq_bl (i j : Bool) : eqD (.bl i) (.bl j) = decide (i = j) := by unfold eqD; by_cases h : i = j <;> simp [h]
theorem wipe_getQ : ∀ (o : List Nat) (l : List Slot) (j : Nat), o.contains j = false → (wipeE l o)[j]? = l[j]?
  | [], _, _, _ => rfl
  | v :: o, l, j, h => by
    rw [List.contains_cons, Bool.or_eq_false_iff] at h
    show ((wipeE l o).set v .no)[j]? = _
    have hv : v ≠ j := fun e => by subst e; simp at h
    rw [List.getElem?_set_ne hv, wipe_getQ o l j h.2]
theorem wipe_atQ {own : List Nat} {en st : Stt} {i : Nat} (hi : own.contains i = false) (h : wipeT own st = en) : st.at (.loc i) = en.at (.loc i) := by
  subst h
  show st.loc.getD i .no = (wipeE st.loc own).getD i .no
  rw [List.getD_eq_getElem?_getD, List.getD_eq_getElem?_getD, wipe_getQ own st.loc i hi]
theorem chk_wipeQ {own : List Nat} {en : Stt} {i : Nat} {ds : List D} (hi : own.contains i = false) (h : (en.at (.loc i)).dat = some (.lst ds)) (h2 : (en.at (.loc i)).own = true) : ∀ st, wipeT own st = en → chkOk (some (.loc i, ds)) st = true := by
  intro st e
  have := wipe_atQ hi e
  exact chk_some (by rw [this]; exact h) (by rw [this]; exact h2)
theorem eq_lst_nil (ys : List D) : eqD (.lst ys) (.lst []) = ys.isEmpty := by cases ys <;> rfl
theorem fmodN (a b : Nat) : (a : Int).fmod (b : Int) = ((a % b : Nat) : Int) := by
  rw [Int.fmod_eq_emod_of_nonneg _ (by omega)]; rfl
theorem fdivN (a b : Nat) : (a : Int).fdiv (b : Int) = ((a / b : Nat) : Int) := by
  rw [Int.fdiv_eq_ediv_of_nonneg _ (by omega)]; rfl
def one (c : Nat) : Str := ⟨#[c]⟩
def chD (c : Nat) : D := .str (one c)
theorem chars_eq (z : Str) : chars z = z.cps.toList.map chD := rfl
theorem one_inj {a b : Nat} (h : one a = one b) : a = b := by
  have : (#[a] : Array Nat) = #[b] := congrArg Str.cps h
  simpa using this
theorem noO_ch (n c : Nat) : noO n (chD c) = true := by cases n <;> rfl
theorem okE_ch {c : Nat} (h : c < 1114112) (n : Nat) : okE n (chD c) = true := by
  have : PyData.strOk (one c) = true := by
    unfold PyData.strOk one
    simp; exact h
  cases n <;> exact this
theorem eq_ch (a b : Nat) : eqD (chD a) (chD b) = decide (a = b) := by
  unfold chD eqD
  by_cases h : a = b
  · subst h; simp
  · simp only [h, decide_false, beq_eq_false_iff_ne]
    exact fun z => h (one_inj z)
/-- a def that may be handed the script -/
class HasO (T : Tab) (dfs : outParam (Nat → Option Dfn)) (f : Nat) (d : outParam Dfn) : Prop where
  io : T.io f = d.io
  ob : T.ob f = true
  df : dfs f = some d
theorem Phi_qO {T : Tab} {F : Nat} {dfs : Nat → Option Dfn} {k f : Nat} {d : Dfn} [h : HasO T dfs f d] {ds : List D} {Q : Ret → Prop} (hk : 1 ≤ k) (g : ∀ j, k = j + 1 → Opt (nrm (⟨parS d.io ds ++ List.replicate d.n .no, []⟩ : Stt)) fun en => Opt (evSs T (Phi T F dfs j) F d.body en) (endK d.io Q)) : Opt (Phi T F dfs k f ds []) Q := by
  obtain ⟨k, rfl⟩ : ∃ j, k = j + 1 := ⟨k - 1, by omega⟩
  have : Phi T F dfs (k + 1) f = fnE T (Phi T F dfs k) F d.io d.n d.body := by
    show (match dfs f with | some d => fnE T (Phi T F dfs k) F d.io d.n d.body | none => fun _ _ => none) = _
    rw [h.df]
  rw [this, fn_q]
  exact g k rfl
theorem E_callO {T : Tab} {Φ : Nat → FnSem} {dfs : Nat → Option Dfn} {f : Nat} {d : Dfn} [h : HasO T dfs f d] {es : List IE} {en : Stt} {Q : R → Prop} :
    Opt (evE T Φ (.call f es) en) Q = Opt (evCArgs T Φ d.io false es en) (kP fun avs e1 => ((avPls avs).Nodup ∧ frN avs ≤ 1 ∧ (avPls avs).all (fun x => (e1.at x).own) = true) ∧ Opt (avDats e1 avs) fun ds =>
      Opt (Φ f ds e1.obs) (kRet fun r fr outs obs => Opt (ioC avs d.io outs ⟨e1.loc, obs⟩) fun en' => Q ⟨r, fr, en'⟩)) := by
  rw [E_call, h.io, h.ob, Bool.not_true, Bool.and_false]
  refine Opt_ext fun p => ?_
  unfold kP
  dsimp only
  unfold callF
  rw [Opt_iteN, h.ob, h.io]
  congr 1
  cases avDats p.2 p.1 with
  | none => rfl
  | some ds =>
    simp only [Opt_some, if_true]
    cases Φ f ds p.2.obs with
    | none => rfl
    | some r =>
      simp only [Opt_some, kRet]
      cases ioC p.1 d.io r.outs ⟨p.2.loc, r.obs⟩ <;> rfl
theorem vS_s (d : D) : vS (some d) = .sh d := rfl
theorem vS_n : vS none = .no := rfl
theorem oS_s (d : D) : oS (some d) = .ow d := rfl
theorem oS_n : oS none = .no := rfl
theorem p_intB (b : Bool) : primX .int [.bl b] = some (.int (if b = true then 1 else 0), false) := by cases b <;> rfl
theorem p_intI (i : Int) : primX .int [.int i] = some (.int i, false) := rfl
theorem shO_vS (o : Option D) : shO (some (vS o)) = vS o := by cases o <;> rfl
theorem m_ins (xs : List D) (i : Int) (d : D) : mutD .insert (.lst xs) [.int i, d] = if 0 ≤ i ∧ i < 2 ^ 63 ∧ xs.length < lim then some (.lst (xs.take i.toNat ++ [d] ++ xs.drop i.toNat), .non) else none := rfl
theorem keep_bl (b : Bool) (o : List Ob) : keepOk ⟨.bl b, false, [], o⟩ = true := rfl
theorem keep_int (b : Int) (o : List Ob) : keepOk ⟨.int b, false, [], o⟩ = true := rfl
theorem keep_non (o : List Ob) : keepOk ⟨.non, false, [], o⟩ = true := rfl
theorem keep_str (b : Str) (o : List Ob) : keepOk ⟨.str b, false, [], o⟩ = true := rfl
theorem decT {p : Prop} [Decidable p] (h : p) : decide p = true := decide_eq_true h
theorem decF {p : Prop} [Decidable p] (h : ¬ p) : decide p = false := decide_eq_false h
/-- an int, or None -/
def oD : Option Nat → D
  | none => .non
  | some n => .int n
theorem noO_oD (n : Nat) (o : Option Nat) : noO n (oD o) = true := by cases o <;> cases n <;> rfl
theorem okE_oD (n : Nat) (o : Option Nat) : okE n (oD o) = true := by cases o <;> cases n <;> rfl
theorem isNon_oD (o : Option Nat) : isNonD (oD o) = o.isNone := by cases o <;> rfl
theorem isNone_s (n : Nat) : (some n).isNone = false := rfl
theorem isNone_n : (none : Option Nat).isNone = true := rfl
theorem isNon_non : isNonD .non = true := rfl
theorem isNon_int (i : Int) : isNonD (.int i) = false := rfl
theorem isNon_bl (i : Bool) : isNonD (.bl i) = false := rfl
theorem isNon_str (i : Str) : isNonD (.str i) = false := rfl
theorem isNon_tup (i : List D) : isNonD (.tup i) = false := rfl
theorem isNon_lst (i : List D) : isNonD (.lst i) = false := rfl
theorem lim_eq : lim = 16777216 := rfl
theorem mulOk_l {i j : Int} (h : -(2 ^ 64) < i ∧ i < 2 ^ 64) : mulOk i j := .inl h
theorem mulOk_r {i j : Int} (h : -(2 ^ 64) < j ∧ j < 2 ^ 64) : mulOk i j := .inr h
end Py
/-! Bodies of defs that laws share. -/
namespace Py
open PySem PySem.Spec PyProof.Rows L2
/-- corresponds -/
def b_p_corresponds : List IS := [.for (.tp [3, 4]) .zips [(.loc 0), (.loc 1)] [.ite (.and (.cmp .IsNot (.loc 3) (.cst .non)) (.cmp .NotEq (.loc 4) (.idx (.loc 2) (.loc 3)))) [.ret (.cst (.bl false))] []], .ret (.cst (.bl true))]
abbrev d_p_corresponds : Dfn := ⟨[false, false, false], 2, b_p_corresponds⟩
abbrev i_p_corresponds : Nat := 271
/-- is_simulation -/
def b_p_is_simulation : List IS := [.ite (.or (.not (.isi (.loc 2) [.tuple])) (.cmp .NotEq (.prm .len [(.loc 2)]) (.prm .len [(.idx (.loc 0) (.cst (.int 2)))]))) [.ret (.cst (.bl false))] [], .ite (.not (.prm .all [(.lc (.call 19 [(.loc 3), (.prm .len [(.idx (.loc 1) (.cst (.int 2)))])]) (.nm 3) .val [(.loc 2)] [] [3] [1, 3])])) [.ret (.cst (.bl false))] [], .for (.tp [3, 4]) .enm [(.loc 2)] [.for (.tp [5, 6]) .zips [(.idx (.idx (.loc 0) (.cst (.int 2))) (.loc 3)), (.idx (.idx (.loc 1) (.cst (.int 2))) (.loc 4))] [.ite (.not (.call 271 [(.loc 5), (.loc 6), (.loc 2)])) [.ret (.cst (.bl false))] []]], .ret (.cst (.bl true))]
abbrev d_p_is_simulation : Dfn := ⟨[false, false, false], 4, b_p_is_simulation⟩
abbrev i_p_is_simulation : Nat := 272
/-- _law_is_simulation -/
def b_l_is_simulation : List IS := [.for (.tp [3, 4]) .enm [(.loc 2)] [.for (.tp [5, 6]) .zip [(.idx (.idx (.loc 0) (.cst (.int 2))) (.loc 3)), (.idx (.idx (.loc 1) (.cst (.int 2))) (.loc 4))] [.for (.tp [7, 8]) .zip [(.loc 5), (.loc 6)] [.ite (.and (.cmp .IsNot (.loc 7) (.cst .non)) (.cmp .NotEq (.loc 8) (.idx (.loc 2) (.loc 7)))) [.ret (.cst (.bl false))] []]]], .ret (.cst (.bl true))]
abbrev d_l_is_simulation : Dfn := ⟨[false, false, false], 6, b_l_is_simulation⟩
abbrev i_l_is_simulation : Nat := 273
/-- _law_weaker -/
def b_l_weaker : List IS := [.asg 3 (.lst []), .for (.nm 4) .val [(.bin .Add (.prm .lrange [(.prm .len [(.idx (.loc 1) (.cst (.int 2)))])]) (.lc (.call 2 [(.loc 0), (.prm .len [(.idx (.loc 1) (.cst (.int 2)))])]) (.nm 12) .rng1 [(.loc 2)] [] [12] [0, 1, 12]))] [.exp (.mut .insert (.loc 3) [(.call 2 [(.loc 0), (.bin .Add (.prm .len [(.loc 3)]) (.cst (.int 1)))]), (.loc 4)])], .asg 5 (.lst []), .for (.nm 6) .val [(.loc 3)] [.asg 7 (.lst []), .for (.nm 8) .val [(.idx (.idx (.loc 1) (.cst (.int 2))) (.loc 6))] [.asg 9 (.lst []), .for (.nm 10) .val [(.loc 8)] [.asg 11 (.lc (.loc 12) (.tp [12, 13]) .enm [(.loc 3)] [(.cmp .Eq (.loc 13) (.loc 10))] [12, 13] [10, 12, 13]), .exp (.mut .append (.loc 9) [(.ite (.or (.cmp .Eq (.loc 11) (.lst [])) (.cmp .Eq (.call 2 [(.loc 0), (.cst (.int 4))]) (.cst (.int 0)))) (.cst .non) (.idx (.loc 11) (.call 2 [(.loc 0), (.prm .len [(.loc 11)])])))])], .ite (.cmp .Eq (.lc (.loc 10) (.nm 10) .val [(.loc 9)] [(.cmp .IsNot (.loc 10) (.cst .non))] [10] [10]) (.lst [])) [.asg 12 (.idx (.lc (.loc 14) (.tp [14, 10]) .enm [(.loc 8)] [(.cmp .IsNot (.loc 10) (.cst .non))] [14, 10] [10, 14]) (.cst (.int 0))), .seti (.loc 9) (.loc 12) (.mth .index (.loc 3) [(.idx (.loc 8) (.loc 12))])] [], .exp (.mut .append (.loc 7) [(.prm .tuple [(.loc 9)])])], .exp (.mut .append (.loc 5) [(.prm .tuple [(.loc 7)])])], .ret (.tup [(.tup [(.idx (.loc 1) (.cst (.int 0))), (.idx (.loc 1) (.cst (.int 1))), (.prm .tuple [(.loc 5)])]), (.prm .tuple [(.loc 3)])])]
abbrev d_l_weaker : Dfn := ⟨[true, false, false], 12, b_l_weaker⟩
abbrev i_l_weaker : Nat := 274
/-- _law_draw_population -/
def b_l_draw_population : List IS := [.asg 3 (.bin .Mult (.lst [(.cst (.int 0))]) (.loc 1)), .for (.nm 4) .rng1 [(.call 2 [(.loc 0), (.bin .Add (.loc 2) (.cst (.int 1)))])] [.augi (.loc 3) (.call 2 [(.loc 0), (.loc 1)]) .Add (.cst (.int 1))], .ret (.prm .tuple [(.loc 3)])]
abbrev d_l_draw_population : Dfn := ⟨[true, false, false], 2, b_l_draw_population⟩
abbrev i_l_draw_population : Nat := 46
/-- _law_one_of -/
def b_l_one_of : List IS := [.ret (.idx (.loc 1) (.call 2 [(.loc 0), (.prm .len [(.loc 1)])]))]
abbrev d_l_one_of : Dfn := ⟨[true, false], 0, b_l_one_of⟩
abbrev i_l_one_of : Nat := 24
/-- covers -/
def b_p_covers : List IS := [.ret (.prm .all [(.lc (.cmp .GtE (.loc 2) (.loc 3)) (.tp [2, 3]) .zips [(.loc 0), (.loc 1)] [] [2, 3] [2, 3])])]
abbrev d_p_covers : Dfn := ⟨[false, false], 2, b_p_covers⟩
abbrev i_p_covers : Nat := 61
/-- survivors -/
def b_p_survivors : List IS := [.asg 3 (.bin .Mult (.lst [(.cst (.int 0))]) (.prm .len [(.idx (.loc 0) (.cst (.int 2)))])), .for (.tp [4, 5]) .zips [(.idx (.loc 0) (.cst (.int 0))), (.loc 1)] [.for (.tp [6, 7]) .enm [(.loc 5)] [.asg 8 (.call 36 [(.loc 0), (.loc 6), (.loc 4), (.loc 2)]), .ite (.cmp .IsNot (.loc 8) (.cst .non)) [.augi (.loc 3) (.loc 8) .Add (.loc 7)] []]], .ret (.prm .tuple [(.loc 3)])]
abbrev d_p_survivors : Dfn := ⟨[false, false, false], 6, b_p_survivors⟩
abbrev i_p_survivors : Nat := 62
end Py
set_option maxHeartbeats 0
/-! The law's text: bodies, checks. -/
namespace Py
open PySem PySem.Spec PyProof.Rows L2
def topS (i : Nat) : Stmt := PySem.Challenge.pw_echolots_k60_simulations_recognized.main.body.getD i (.Pass ⟨0, 0, 0, 0⟩)
def theC : CT := ⟨fun n => match n with | 18 => "is_integer" | 19 => "is_index" | 271 => "corresponds" | 272 => "is_simulation" | 0 => "_law_open" | 1 => "_law_spread" | 2 => "_law_take" | 3 => "_law_same" | 4 => "_law_draw_alphabet" | 5 => "_law_draw_entry" | 6 => "_law_draw_channel" | 7 => "_law_lying" | 8 => "_law_any_channel" | 273 => "_law_is_simulation" | 274 => "_law_weaker" | 275 => "_law_two_channels" | 276 => "_law_changed" | 277 => "_law_is_right" | 278 => "law" | _ => "", fun x => none⟩
/-- _law_two_channels -/
def b_l_two_channels : List IS := [.asg 2 (.call 8 [(.loc 0), (.cst (.int 4)), (.cst (.int 4)), (.loc 1)]), .asg 3 (.call 2 [(.loc 0), (.bin .Add (.bin .Sub (.cst (.int 4)) (.prm .len [(.idx (.loc 2) (.cst (.int 2)))])) (.cst (.int 1)))]), .asgT [6, 7] (.call 274 [(.loc 0), (.loc 2), (.loc 3)]), .ite (.cmp .Gt (.call 2 [(.loc 0), (.cst (.int 3))]) (.cst (.int 0))) [.ret (.tup [(.loc 6), (.loc 2), (.loc 7)])] [], .par [8, 9] [(.bin .Add (.cst (.int 1)) (.call 2 [(.loc 0), (.loc 1)])), (.lst [])], .for (.nm 4) .rng1 [(.loc 8)] [.asg 10 (.prm .len [(.idx (.loc 2) (.cst (.int 1)))]), .exp (.mut .append (.loc 9) [(.prm .tuple [(.lc (.call 5 [(.loc 0), (.loc 10), (.loc 8), (.bin .Mod (.loc 11) (.loc 10))]) (.nm 11) .rng1 [(.prm .len [(.idx (.loc 2) (.cst (.int 0)))])] [] [11] [0, 8, 10, 11])])])], .asg 5 (.tup [(.idx (.loc 2) (.cst (.int 0))), (.idx (.loc 2) (.cst (.int 1))), (.prm .tuple [(.loc 9)])]), .ret (.tup [(.loc 5), (.loc 2), (.prm .tuple [(.lc (.call 2 [(.loc 0), (.prm .len [(.idx (.loc 2) (.cst (.int 2)))])]) (.nm 11) .rng1 [(.loc 8)] [] [11] [0, 2, 11])])])]
abbrev d_l_two_channels : Dfn := ⟨[true, false], 10, b_l_two_channels⟩
abbrev i_l_two_channels : Nat := 275
/-- _law_changed -/
def b_l_changed_v7 : List IS := [.par [4, 5] [(.call 2 [(.loc 0), (.prm .len [(.loc 1)])]), (.call 2 [(.loc 0), (.cst (.int 6))])], .ite (.cmp .Lt (.loc 5) (.cst (.int 3))) [.asg 6 (.bin .Add (.lst [(.loc 2), (.neg (.cst (.int 1))), (.cst .non), (.cst (.bl true)), (.cst (.str "0")), (.tup [(.cst (.int 0))])]) (.prm .lrange [(.loc 2)])), .ret (.bin .Add (.bin .Add (.slc (.loc 1) .nop (.loc 4)) (.tup [(.idx (.loc 6) (.call 2 [(.loc 0), (.prm .len [(.loc 6)])]))])) (.slc (.loc 1) (.bin .Add (.loc 4) (.cst (.int 1))) .nop))] [], .asg 3 (.lst [(.cst .non), (.prm .list [(.loc 1)]), (.slc (.loc 1) (.cst (.int 1)) .nop), (.bin .Add (.loc 1) (.tup [(.cst (.int 0))])), (.tup []), (.cst (.int 5)), (.cst (.str "")), (.dic [] []), (.lst [(.loc 1)]), (.rev (.loc 1)), (.prm .dict [(.lst [(.tup [(.cst (.int 0)), (.cst (.int 0))])])])]), .ret (.idx (.loc 3) (.call 2 [(.loc 0), (.cst (.int 11))]))]
abbrev d_l_changed_v7 : Dfn := ⟨[true, false, false], 4, b_l_changed_v7⟩
abbrev i_l_changed_v7 : Nat := 276
/-- _law_is_right -/
def b_l_is_right : List IS := [.ite (.or (.not (.isi (.loc 2) [.tuple])) (.cmp .NotEq (.prm .len [(.loc 2)]) (.prm .len [(.idx (.loc 0) (.cst (.int 2)))]))) [.ret (.cst (.bl false))] [], .for (.nm 3) .val [(.loc 2)] [.ite (.or (.not (.isi (.loc 3) [.int])) (.or (.isi (.loc 3) [.bool]) (.not (.chn .LtE .Lt (.cst (.int 0)) (.loc 3) (.prm .len [(.idx (.loc 1) (.cst (.int 2)))]))))) [.ret (.cst (.bl false))] []], .ret (.call 273 [(.loc 0), (.loc 1), (.loc 2)])]
abbrev d_l_is_right : Dfn := ⟨[false, false, false], 1, b_l_is_right⟩
abbrev i_l_is_right : Nat := 277
/-- law -/
def b_law_k60 : List IS := [.asg 1 (.call 0 [(.loc 0)]), .for (.nm 2) .rng1 [(.cst (.int 6))] [.asgT [5, 6, 7] (.call 275 [(.loc 1), (.cst (.int 4))]), .asg 3 (.bin .Add (.lst [(.loc 7)]) (.lc (.call 276 [(.loc 1), (.loc 7), (.prm .len [(.idx (.loc 6) (.cst (.int 2)))])]) (.nm 9) .rng1 [(.cst (.int 6))] [] [9] [1, 6, 7, 9])), .for (.nm 4) .val [(.loc 3)] [.asg 8 (.prm .repr [(.tup [(.loc 5), (.loc 6), (.loc 4)])]), .ite (.not (.call 3 [(.call 272 [(.loc 5), (.loc 6), (.loc 4)]), (.call 277 [(.loc 5), (.loc 6), (.loc 4)])])) [.ret (.cst (.bl false))] [], .ite (.cmp .NotEq (.prm .repr [(.tup [(.loc 5), (.loc 6), (.loc 4)])]) (.loc 8)) [.ret (.cst (.bl false))] []], .ite (.cmp .IsNot (.call 272 [(.loc 5), (.loc 5), (.prm .trange [(.prm .len [(.idx (.loc 5) (.cst (.int 2)))])])]) (.cst (.bl true))) [.ret (.cst (.bl false))] []], .ret (.cst (.bl true))]
abbrev d_law_k60 : Dfn := ⟨[false], 9, b_law_k60⟩
abbrev i_law_k60 : Nat := 278
def theT : Tab := ⟨fun n => match n with | 18 => d_p_is_integer.io | 19 => d_p_is_index.io | 271 => d_p_corresponds.io | 272 => d_p_is_simulation.io | 0 => d_l_open.io | 1 => d_l_spread.io | 2 => d_l_take.io | 3 => d_l_same.io | 4 => d_l_draw_alphabet.io | 5 => d_l_draw_entry.io | 6 => d_l_draw_channel.io | 7 => d_l_lying.io | 8 => d_l_any_channel.io | 273 => d_l_is_simulation.io | 274 => d_l_weaker.io | 275 => d_l_two_channels.io | 276 => d_l_changed_v7.io | 277 => d_l_is_right.io | 278 => d_law_k60.io | _ => [], fun n => n == 0, fun n => match n with | 3 => true | _ => false, fun _ _ => 0, fun _ => 0, 0⟩
def dfs : Nat → Option Dfn := fun n => match n with | 18 => some d_p_is_integer | 19 => some d_p_is_index | 271 => some d_p_corresponds | 272 => some d_p_is_simulation | 0 => some d_l_open | 1 => some d_l_spread | 2 => some d_l_take | 3 => some d_l_same | 4 => some d_l_draw_alphabet | 5 => some d_l_draw_entry | 6 => some d_l_draw_channel | 7 => some d_l_lying | 8 => some d_l_any_channel | 273 => some d_l_is_simulation | 274 => some d_l_weaker | 275 => some d_l_two_channels | 276 => some d_l_changed_v7 | 277 => some d_l_is_right | 278 => some d_law_k60 | _ => none
abbrev w_p_is_integer : Wrt := ⟨"is_integer", topS 1, ["value"], ["value"], [0]⟩
theorem ok_p_is_integer : DefOk theC 40 40 d_p_is_integer w_p_is_integer := ⟨⟨rfl, rfl, rfl, by decide +kernel, rfl, by decide +kernel, by decide +kernel⟩, rfl, rfl, by decide +kernel, by decide +kernel, by decide +kernel, by decide +kernel⟩
abbrev w_p_is_index : Wrt := ⟨"is_index", topS 2, ["value", "size"], ["value", "size"], [0, 1]⟩
theorem ok_p_is_index : DefOk theC 40 40 d_p_is_index w_p_is_index := ⟨⟨rfl, rfl, rfl, by decide +kernel, rfl, by decide +kernel, by decide +kernel⟩, rfl, rfl, by decide +kernel, by decide +kernel, by decide +kernel, by decide +kernel⟩
abbrev w_p_corresponds : Wrt := ⟨"corresponds", topS 4, ["weak_entry", "strong_entry", "simulation", "after", "other"], ["weak_entry", "strong_entry", "simulation"], [0, 1, 2, 3, 4]⟩
theorem ok_p_corresponds : DefOk theC 40 40 d_p_corresponds w_p_corresponds := ⟨⟨rfl, rfl, rfl, by decide +kernel, rfl, by decide +kernel, by decide +kernel⟩, rfl, rfl, by decide +kernel, by decide +kernel, by decide +kernel, by decide +kernel⟩
abbrev w_p_is_simulation : Wrt := ⟨"is_simulation", topS 5, ["weak", "strong", "value", "state", "other", "entry", "beside"], ["weak", "strong", "value"], [0, 1, 2, 3, 4, 5, 6]⟩
theorem ok_p_is_simulation : DefOk theC 40 40 d_p_is_simulation w_p_is_simulation := ⟨⟨rfl, rfl, rfl, by decide +kernel, rfl, by decide +kernel, by decide +kernel⟩, rfl, rfl, by decide +kernel, by decide +kernel, by decide +kernel, by decide +kernel⟩
abbrev w_l_open : Wrt := ⟨"_law_open", topS 7, ["_law_script", "_law_cells", "_law_k", "_law_cell"], ["_law_script"], [0, 1, 2, 3]⟩
theorem ok_l_open : DefOk theC 40 40 d_l_open w_l_open := ⟨⟨rfl, rfl, rfl, by decide +kernel, rfl, by decide +kernel, by decide +kernel⟩, rfl, rfl, by decide +kernel, by decide +kernel, by decide +kernel, by decide +kernel⟩
abbrev w_l_spread : Wrt := ⟨"_law_spread", topS 8, ["_law_cell", "_law_at", "_law_primes", "_law_one", "_law_two", "_law_three"], ["_law_cell", "_law_at"], [0, 1, 2, 3, 4, 5]⟩
theorem ok_l_spread : DefOk theC 40 40 d_l_spread w_l_spread := ⟨⟨rfl, rfl, rfl, by decide +kernel, rfl, by decide +kernel, by decide +kernel⟩, rfl, rfl, by decide +kernel, by decide +kernel, by decide +kernel, by decide +kernel⟩
abbrev w_l_take : Wrt := ⟨"_law_take", topS 9, ["_law_pen", "_law_amount", "_law_found", "_law_at", "_law_cell"], ["_law_pen", "_law_amount"], [0, 1, 2, 3, 4]⟩
theorem ok_l_take : DefOk theC 40 40 d_l_take w_l_take := ⟨⟨rfl, rfl, rfl, by decide +kernel, rfl, by decide +kernel, by decide +kernel⟩, rfl, rfl, by decide +kernel, by decide +kernel, by decide +kernel, by decide +kernel⟩
abbrev w_l_same : Wrt := ⟨"_law_same", topS 10, ["_law_found", "_law_due", "_law_one", "_law_other"], ["_law_found", "_law_due"], [0, 1]⟩
theorem ok_l_same : DefOk theC 40 40 d_l_same w_l_same := ⟨⟨rfl, rfl, rfl, by decide +kernel, rfl, by decide +kernel, by decide +kernel⟩, rfl, rfl, by decide +kernel, by decide +kernel, by decide +kernel, by decide +kernel⟩
abbrev w_l_draw_alphabet : Wrt := ⟨"_law_draw_alphabet", topS 11, ["_law_pen", "_law_size", "_law_pool", "_law_first", "_law_stride", "_law_k"], ["_law_pen", "_law_size"], [0, 1, 2, 3, 4]⟩
theorem ok_l_draw_alphabet : DefOk theC 40 40 d_l_draw_alphabet w_l_draw_alphabet := ⟨⟨rfl, rfl, rfl, by decide +kernel, rfl, by decide +kernel, by decide +kernel⟩, rfl, rfl, by decide +kernel, by decide +kernel, by decide +kernel, by decide +kernel⟩
abbrev w_l_draw_entry : Wrt := ⟨"_law_draw_entry", topS 12, ["_law_pen", "_law_outputs", "_law_size", "_law_favored", "_law_entry", "_law_k", "_law_possible", "_law_after"], ["_law_pen", "_law_outputs", "_law_size", "_law_favored"], [0, 1, 2, 3, 4, 5, 6]⟩
theorem ok_l_draw_entry : DefOk theC 40 40 d_l_draw_entry w_l_draw_entry := ⟨⟨rfl, rfl, rfl, by decide +kernel, rfl, by decide +kernel, by decide +kernel⟩, rfl, rfl, by decide +kernel, by decide +kernel, by decide +kernel, by decide +kernel⟩
abbrev w_l_draw_channel : Wrt := ⟨"_law_draw_channel", topS 13, ["_law_pen", "_law_inputs", "_law_outputs", "_law_size", "_law_sent", "_law_received", "_law_state", "_law_amount", "_law_states", "_law_entries", "_law_k"], ["_law_pen", "_law_inputs", "_law_outputs", "_law_size"], [0, 1, 2, 3, 4, 5, 6, 7, 8, 9]⟩
theorem ok_l_draw_channel : DefOk theC 40 40 d_l_draw_channel w_l_draw_channel := ⟨⟨rfl, rfl, rfl, by decide +kernel, rfl, by decide +kernel, by decide +kernel⟩, rfl, rfl, by decide +kernel, by decide +kernel, by decide +kernel, by decide +kernel⟩
abbrev w_l_lying : Wrt := ⟨"_law_lying", topS 14, ["_law_alphabet", "_law_limit", "_law_states", "_law_used", "_law_entries", "_law_sent", "_law_more", "_law_received"], ["_law_alphabet", "_law_limit"], [0, 1, 2, 3, 4, 5, 6]⟩
theorem ok_l_lying : DefOk theC 40 40 d_l_lying w_l_lying := ⟨⟨rfl, rfl, rfl, by decide +kernel, rfl, by decide +kernel, by decide +kernel⟩, rfl, rfl, by decide +kernel, by decide +kernel, by decide +kernel, by decide +kernel⟩
abbrev w_l_any_channel : Wrt := ⟨"_law_any_channel", topS 15, ["_law_pen", "_law_inputs", "_law_outputs", "_law_size"], ["_law_pen", "_law_inputs", "_law_outputs", "_law_size"], [0, 1, 2, 3]⟩
theorem ok_l_any_channel : DefOk theC 40 40 d_l_any_channel w_l_any_channel := ⟨⟨rfl, rfl, rfl, by decide +kernel, rfl, by decide +kernel, by decide +kernel⟩, rfl, rfl, by decide +kernel, by decide +kernel, by decide +kernel, by decide +kernel⟩
abbrev w_l_is_simulation : Wrt := ⟨"_law_is_simulation", topS 16, ["_law_weak", "_law_strong", "_law_value", "_law_state", "_law_other", "_law_entry", "_law_beside", "_law_after", "_law_there"], ["_law_weak", "_law_strong", "_law_value"], [0, 1, 2, 3, 4, 5, 6, 7, 8]⟩
theorem ok_l_is_simulation : DefOk theC 40 40 d_l_is_simulation w_l_is_simulation := ⟨⟨rfl, rfl, rfl, by decide +kernel, rfl, by decide +kernel, by decide +kernel⟩, rfl, rfl, by decide +kernel, by decide +kernel, by decide +kernel, by decide +kernel⟩
abbrev w_l_weaker : Wrt := ⟨"_law_weaker", topS 17, ["_law_pen", "_law_strong", "_law_extra", "_law_places", "_law_state", "_law_states", "_law_place", "_law_entries", "_law_entry", "_law_row", "_law_after", "_law_fits", "_law_k", "_law_other", "_law_spot"], ["_law_pen", "_law_strong", "_law_extra"], [0, 1, 2, 3, 4, 5, 6, 7, 8, 9, 10, 11, 12]⟩
theorem ok_l_weaker : DefOk theC 40 40 d_l_weaker w_l_weaker := ⟨⟨rfl, rfl, rfl, by decide +kernel, rfl, by decide +kernel, by decide +kernel⟩, rfl, rfl, by decide +kernel, by decide +kernel, by decide +kernel, by decide +kernel⟩
abbrev w_l_two_channels : Wrt := ⟨"_law_two_channels", topS 18, ["_law_pen", "_law_size", "_law_strong", "_law_extra", "_law_state", "_law_other", "_law_weak", "_law_places", "_law_amount", "_law_states", "_law_width", "_law_k"], ["_law_pen", "_law_size"], [0, 1, 2, 3, 4, 5, 6, 7, 8, 9, 10]⟩
theorem ok_l_two_channels : DefOk theC 40 40 d_l_two_channels w_l_two_channels := ⟨⟨rfl, rfl, rfl, by decide +kernel, rfl, by decide +kernel, by decide +kernel⟩, rfl, rfl, by decide +kernel, by decide +kernel, by decide +kernel, by decide +kernel⟩
abbrev w_l_changed_v7 : Wrt := ⟨"_law_changed", topS 19, ["_law_pen", "_law_places", "_law_size", "_law_some", "_law_k", "_law_road", "_law_odd"], ["_law_pen", "_law_places", "_law_size"], [0, 1, 2, 3, 4, 5, 6]⟩
theorem ok_l_changed_v7 : DefOk theC 40 40 d_l_changed_v7 w_l_changed_v7 := ⟨⟨rfl, rfl, rfl, by decide +kernel, rfl, by decide +kernel, by decide +kernel⟩, rfl, rfl, by decide +kernel, by decide +kernel, by decide +kernel, by decide +kernel⟩
abbrev w_l_is_right : Wrt := ⟨"_law_is_right", topS 20, ["_law_weak", "_law_strong", "_law_value", "_law_state"], ["_law_weak", "_law_strong", "_law_value"], [0, 1, 2, 3]⟩
theorem ok_l_is_right : DefOk theC 40 40 d_l_is_right w_l_is_right := ⟨⟨rfl, rfl, rfl, by decide +kernel, rfl, by decide +kernel, by decide +kernel⟩, rfl, rfl, by decide +kernel, by decide +kernel, by decide +kernel, by decide +kernel⟩
abbrev w_law_k60 : Wrt := ⟨"law", topS 21, ["_law_script", "_law_pen", "_law_turn", "_law_things", "_law_thing", "_law_weak", "_law_strong", "_law_places", "_law_seen", "_law_again"], ["_law_script"], [0, 1, 2, 3, 4, 5, 6, 7, 8]⟩
theorem ok_law_k60 : DefOk theC 40 40 d_law_k60 w_law_k60 := ⟨⟨rfl, rfl, rfl, by decide +kernel, rfl, by decide +kernel, by decide +kernel⟩, rfl, rfl, by decide +kernel, by decide +kernel, by decide +kernel, by decide +kernel⟩
def wrt : Nat → Wrt := fun n => match n with | 18 => w_p_is_integer | 19 => w_p_is_index | 271 => w_p_corresponds | 272 => w_p_is_simulation | 0 => w_l_open | 1 => w_l_spread | 2 => w_l_take | 3 => w_l_same | 4 => w_l_draw_alphabet | 5 => w_l_draw_entry | 6 => w_l_draw_channel | 7 => w_l_lying | 8 => w_l_any_channel | 273 => w_l_is_simulation | 274 => w_l_weaker | 275 => w_l_two_channels | 276 => w_l_changed_v7 | 277 => w_l_is_right | 278 => w_law_k60 | _ => w_law_k60
end Py
/-! The pen. -/
namespace Py
open PySem PySem.Spec PyProof.Rows L2
local macro_rules | `(tactic| walk_at "ev") => `(tactic| simp -implicitDefEqProofs -dsimp only [nrm_some, ↓kP_mk, ↓kT_mk, ↓kR_mk, ↓kRet_mk, ↓Opt_some, Opt_some, Opt_none, ↓E_loc, ↓E_cst, ↓E_tup, ↓E_lst, ↓E_bin, ↓E_cmp, ↓E_idx, ↓E_chn, ↓E_not, ↓E_and, ↓E_or, ↓E_ite, ↓E_neg, ↓E_callC, ↓E_callO, ↓E_slc, ↓E_rev, ↓E_dnew, ↓E_isi, ↓E_mth, ↓E_mut, ↓E_lc, ↓E_sset, ↓E_lrg, ↓E_trg, ↓E_prm', il_cst, in_cst, il_fld, in_fld, il_nop, il_tup, in_tup, il_lst, in_lst, il_dic, in_dic, il_bin, in_bin, il_neg, in_neg, il_not, in_not, il_cmp, in_cmp, il_chn, in_chn, il_and, in_and, il_or, in_or, il_ite, in_ite, il_call, in_call, il_ocall, in_ocall, il_make, in_make, il_prm, in_prm, il_isi, in_isi, il_idx, in_idx, il_slc, in_slc, il_rev, in_rev, il_mth, in_mth, il_mut, in_mut, il_lc, in_lc, in_loc, ns_len, ns_sum, ns_min, ns_max, ns_min2, ns_max2, ns_sorted, ns_all, ns_any, ns_list, ns_tuple, ns_dict, ns_int, ns_abs, ns_repr, ns_lset, ↓pt_nop, ↓pt_e', ↓arg_loc, ↓arg_ne, ↓A2_q, ↓L_nil, ↓L_cons, ↓Ar_nil, ↓Ar_cons, ↓CA_nil, ↓CA_cons, ↓ca_val, ↓ca_keep, ↓ca_lend, ↓I_nil, ↓I_one, ↓src_val, ↓src_rng1, ↓src_rng2, ↓src_enm, ↓src_zip, ↓src_zips, ↓S_asg, ↓S_asgT, ↓S_par, ↓P_nil, ↓P_cons, ↓S_seti, ↓S_augi, ↓S_aug, ↓S_exp, ↓S_ite, ↓S_for, ↓S_retL, ↓S_ret, ↓S_retN, ↓S_brk, ↓S_cnt, ↓S_pas, ↓Ss_nil, ↓Ss_one, ↓Ss_cons, ↓locK_sh, ↓locK_ow, ↓blK_bl, ↓intK_int, ↓argK_sh, ↓argK_ow, ↓argK_io, ↓keepK_val, ↓keepK_pl, ↓lendK_val, ↓lendK_pl, ↓srcK_val, ↓srcK_pl, ↓shK_sh, ↓retK_ow, ↓retK_sh, ↓seqK_nx, ↓seqK_bk, ↓seqK_ct, ↓seqK_rt, ↓endK_rt, ↓endK_nx, ↓turnK_nx, ↓turnK_ct, ↓turnK_bk, ↓turnK_rt, set_mk, at_mk, getD0, getDs, dat_sh, dat_ow, dat_io, own_sh, own_ow, own_io, own_no, upd_ow, upd_io, avdat_val, avdat_pl, vS_s, vS_n, oS_s, oS_n, putOk_vS, putOk_oS, slen, putOk_no, putOk_sh, putOk_ow, okE_int, okE_bl, okE_non, eq_int, eq_bl, Int.zero_add, frS_t, frS_f, ↓putO_eq, ↓asg_nm, asg_tup, asg_lst, putL_nil, ↓putL_cons, putF_nil, ↓putF_cons, wipeT_mk, wipe_nil, wipe_cons, back_nil, back_cons, shO_vS, shO_sh, shO_no, shO_ow, dats_nil, ↓dats_cons, io_nil, io_skip, io_new, ioK_ow, ioK_io, io_pl, outs_nil, ↓outs_t, outs_f, par_t, par_f, par_nil, b_add, b_sub, b_addT, b_addS, b_addL, b_mul, b_mod, b_div, b_pow, b_mulL, b_mulT, r_lst, r_tup, r_str, p_lenS, p_lstS, i_str, l_str, m_ins, m_app, m_ext, x_str, g_add, c_lt, c_le, c_gt, c_ge, c_ltS, c_leS, c_isB, c_isntB, c_is, c_isnt, isNon_oD, isNone_s, isNone_n, isNon_non, isNon_int, isNon_bl, isNon_str, isNon_tup, isNon_lst, noO_oD, okE_oD, c_eq, c_ne, c_in, c_notin, x_lst, x_tup, p_lenL, p_lenT, p_tupL, p_tupT, p_lstL, p_lstT, p_lstF, k_lst, k_str, k_tup, i_lst, i_tup, l_fz, l_lst, l_tup, t_nil, ↓t_cons, tyOf, at_nat, at_lit, ↓fn_q, ↓Opt_iteN, Opt_iteN, Opt_map, List.replicate, List.cons_append, List.nil_append, List.getElem?_cons_zero, List.getElem?_cons_succ, List.set_cons_zero, List.set_cons_succ, ↓iteP_t, ↓iteP_f, iteP_t, iteP_f, ↓reduceIte, Bool.false_eq_true, true_and, and_true, Bool.not_true, Bool.not_false, Bool.and_false, Bool.and_true, Bool.true_and, Bool.false_and, decide_true, decide_false, decide_eq_true_eq, List.any_cons, List.any_nil, Bool.or_false, Bool.or_true, Bool.true_or, Bool.false_or, id, avPls, frN, List.length_cons, List.length_nil, Nat.reduceAdd, Nat.reduceLeDiff, Nat.reduceLT, Int.reduceLE, Int.reduceLT, Int.reduceNeg, Int.reducePow, Int.reduceAdd, Int.reduceMul, Int.reduceSub, Nat.reducePow, Int.reduceToNat, nabs_lit, Int.natAbs_natCast, Int.reduceNe, Int.reduceEq, Nat.reduceMul, Nat.reduceSub, ne_eq, not_false_eq_true, not_true_eq_false, reduceCtorEq, and_self, Nat.reduceEqDiff, set_nat, set_lit, noO_pen, lim_eq, fmodN, fdivN, List.length_map, List.map_set, eq_lst_nil, chars_eq, noO_ch, eq_ch, keep_bl, keep_int, keep_non, keep_str, Bool.and_eq_true, and_assoc, p_intB, p_intI, noO_int, noO_bl, noO_non, noO_str, List.all_cons, List.all_nil, List.nodup_nil, List.nodup_cons, List.mem_cons, List.not_mem_nil, Pl.loc.injEq, or_false, false_or, or_true, true_or, Nat.le_refl, Nat.zero_le, Int.cast_ofNat_Int])
def primesL : List D := [.int 2147483629, .int 2147483587, .int 2147483579, .int 2147483563, .int 2147483549, .int 2147483543, .int 2147483497, .int 2147483489, .int 2147483477, .int 2147483423, .int 2147483399, .int 2147483353, .int 2147483323]
theorem primes_at (n : Int) : ∃ p : Int, atI primesL (n.fmod 13) = some (.int p) ∧ 0 < p ∧ p < 2147483648 := by
  have h0 : 0 ≤ n.fmod 13 := Int.fmod_nonneg_of_pos n (by decide)
  have h1 : n.fmod 13 < 13 := Int.fmod_lt_of_pos n (by decide)
  generalize n.fmod 13 = i at h0 h1
  obtain ⟨k, rfl⟩ := Int.eq_ofNat_of_zero_le h0
  have : k = 0 ∨ k = 1 ∨ k = 2 ∨ k = 3 ∨ k = 4 ∨ k = 5 ∨ k = 6 ∨ k = 7 ∨ k = 8 ∨ k = 9 ∨ k = 10 ∨ k = 11 ∨ k = 12 := by omega
  rcases this with rfl | rfl | rfl | rfl | rfl | rfl | rfl | rfl | rfl | rfl | rfl | rfl | rfl <;> exact ⟨_, rfl, by decide, by decide⟩
theorem nab_lt {i b : Int} (h : 0 ≤ i) (h2 : i < b) : i.natAbs < b.toNat := by omega
theorem fm0 (a : Int) {b : Int} (h : 0 < b) : 0 ≤ a.fmod b := Int.fmod_nonneg_of_pos a h
theorem fm1 (a : Int) {b : Int} (h : 0 < b) : a.fmod b < b := Int.fmod_lt_of_pos a h
theorem sml {i : Int} {b : Int} (h : -b < i ∧ i < b) (hb : b ≤ 2 ^ 64) : -(2 ^ 64) < i ∧ i < 2 ^ 64 := by omega
theorem mul_le {a b A B : Int} (h0 : 0 ≤ a) (h1 : a ≤ A) (k0 : 0 ≤ b) (k1 : b ≤ B) : 0 ≤ a * b ∧ a * b ≤ A * B :=
  ⟨Int.mul_nonneg h0 k0, Int.le_trans (Int.mul_le_mul_of_nonneg_right h1 k0) (Int.mul_le_mul_of_nonneg_left k1 (by omega))⟩
theorem l_spread_ok {T : Tab} {F : Nat} {dfs : Nat → Option Dfn} [HasD T dfs 1 d_l_spread false] {k : Nat} (hk : 1 ≤ k) (cell : Int) (n : Nat) (h : n ≤ 1000000000) :
    Opt (Phi T F dfs k 1 [.int cell, .int n] []) fun r => ∃ x : Nat, r = ⟨.int x, false, [], []⟩ := by
  refine Phi_q hk fun k e => ?_
  unfold d_l_spread b_l_spread
  dsimp only
  walk_at "ev"
  refine iteP_split (fun c => ?_) fun c => ?_
  · walk_at "ev"
    have := of_decide_eq_true c
    exact ⟨cell.toNat, by rw [Int.toNat_of_nonneg (by omega)]⟩
  · walk_at "ev"
    obtain ⟨p1, e1, a1, b1⟩ := primes_at n
    obtain ⟨p2, e2, a2, b2⟩ := primes_at (n + 5)
    obtain ⟨p3, e3, a3, b3⟩ := primes_at (n + 7)
    have c0 := fm0 cell (b := 1000000007) (by decide)
    have c1 := fm1 cell (b := 1000000007) (by decide)
    have m1 := mul_le (A := 1000000007) (B := 2000069069) c0 (by omega) (b := 2 * n + 69069) (by omega) (by omega)
    refine ⟨.inl (by decide), .inl (by omega), .inr (by decide), ?_, ?_⟩
    · omega
    unfold primesL at e1 e2 e3
    rw [e1]
    walk_at "ev"
    generalize hx1 : ((cell.fmod 1000000007 * (2 * (n : Int) + 69069) + (n : Int) * 40503 + 977) ^ 3).fmod p1 = x1
    have x10 : 0 ≤ x1 := by rw [← hx1]; exact fm0 _ a1
    have x11 : x1 < p1 := by rw [← hx1]; exact fm1 _ a1
    have d0 := fm0 cell (b := 65537) (by decide)
    have d1 := fm1 cell (b := 65537) (by decide)
    have m2 := mul_le (A := 2147483648) (B := 1000000003) x10 (by omega) (b := n + 3) (by omega) (by omega)
    refine ⟨by omega, .inl (by omega), by omega, ?_⟩
    rw [e2]
    walk_at "ev"
    generalize hx2 : ((x1 * ((n : Int) + 3) + cell.fmod 65537 + 5) ^ 5).fmod p2 = x2
    have x20 : 0 ≤ x2 := by rw [← hx2]; exact fm0 _ a2
    have x21 : x2 < p2 := by rw [← hx2]; exact fm1 _ a2
    have f0 := fm0 x1 (b := 1009) (by decide)
    have f1 := fm1 x1 (b := 1009) (by decide)
    refine ⟨by omega, by omega, ?_⟩
    rw [e3]
    walk_at "ev"
    generalize hx3 : ((x2 + x1.fmod 1009 + (n : Int)) ^ 3).fmod p3 = x3
    have x30 : 0 ≤ x3 := by rw [← hx3]; exact fm0 _ a3
    refine ⟨by omega, .inl (by omega), .inr (by decide), ((x1 * 2147483647 + x2) * 2147483647 + x3).toNat, ?_⟩
    rw [Int.toNat_of_nonneg (by omega)]
section
variable {T : Tab} {F : Nat} {dfs : Nat → Option Dfn}
theorem l_take_ok [HasD T dfs 1 d_l_spread false] [HasD T dfs 2 d_l_take false] {k : Nat} (hk : 2 ≤ k) (p : Pen) (n : Nat) (hn : 0 < n) (hn2 : n < 1073741824) (hp : p.at_ ≤ 1000000000) :
    Opt (Phi T F dfs k 2 [p.d, .int n] []) fun r => ∃ (x : Nat) (p' : Pen), r = ⟨.int x, false, [p'.d], []⟩ ∧ x < n ∧ p'.at_ ≤ p.at_ + 1 := by
  refine Phi_q (by omega) fun k e => ?_
  subst e
  unfold d_l_take b_l_take
  dsimp only
  rw [Opt_nrm]
  refine Ss_cut (fun en => ∃ (p' : Pen) (a b : Slot), en = ⟨[.io p'.d, .sh (.int n), .no, a, b], []⟩ ∧ p'.at_ ≤ p.at_ + 1) ?_ ?_
  · unfold Pen.d
    walk_at "ev"
    refine iteP_split (fun c => ?_) fun c => ?_
    · walk_at "ev"
      refine iteP_join (fun q => ∃ cell : Int, q = (Fl.nx, (⟨[.io p.d, .sh (.int n), .no, .sh (.int p.at_), .sh (.int cell)], []⟩ : Stt))) (fun c => ?_) (fun c => ?_) ?_
      · unfold Pen.d
        have c := of_decide_eq_true c
        walk_at "ev"
        rw [List.getElem?_map, List.getElem?_eq_getElem (by omega)]
        walk_at "ev"
        exact ⟨_, rfl⟩
      · unfold Pen.d
        walk_at "ev"
        refine iteP_split (fun c => ?_) fun c => ?_
        · have c := of_decide_eq_true c
          walk_at "ev"
          have z0 := fm0 ((p.at_ : Int) * 5 + 3) (b := p.cells.length) (by omega)
          have z1 := fm1 ((p.at_ : Int) * 5 + 3) (b := p.cells.length) (by omega)
          obtain ⟨j, hj⟩ := Int.eq_ofNat_of_zero_le z0
          rw [hj] at z1 ⊢
          refine ⟨.inr (by decide), by omega, ?_⟩
          rw [at_nat, List.getElem?_map, List.getElem?_eq_getElem (by omega)]
          walk_at "ev"
          exact ⟨by omega, _, rfl⟩
        · walk_at "ev"
          exact ⟨_, rfl⟩
      · rintro _ ⟨cell, rfl⟩
        unfold Pen.d
        walk_at "ev"
        refine Opt_mono (l_spread_ok (by omega) cell p.at_ hp) ?_
        rintro _ ⟨x, rfl⟩
        walk_at "ev"
        exact ⟨⟨p.cells, p.at_ + 1, x⟩, _, _, rfl, by show p.at_ + 1 ≤ _; omega⟩
    · walk_at "ev"
      exact ⟨p, .no, .no, rfl, by omega⟩
  · rintro en ⟨p', a, b, rfl, hp'⟩
    unfold Pen.d
    walk_at "ev"
    refine ⟨by omega, by omega, hn2, p'.carry % n, ⟨p'.cells, p'.at_, p'.carry / n⟩, ?_, Nat.mod_lt _ hn, by show p'.at_ ≤ _; omega⟩
    rfl
theorem cutL_map {α β : Type} (f : α → β) (xs : List α) (lo hi : Option Int) : cutL (xs.map f) lo hi = (cutL xs lo hi).map f := by
  unfold cutL
  rw [List.length_map, List.map_take, List.map_drop]
theorem enm_split {l : List D} {pre post : List D} {x : D} (h : enmL l = pre ++ x :: post) : ∃ v, l[pre.length]? = some v ∧ x = .tup [.int (pre.length : Nat), v] := by
  have h1 : (enmL l)[pre.length]? = some x := by rw [h]; simp
  have hlt : pre.length < l.length := by
    have := congrArg List.length h
    rw [enmL_len] at this
    simp only [List.length_append, List.length_cons] at this
    omega
  refine ⟨l[pre.length], List.getElem?_eq_getElem hlt, ?_⟩
  rw [enmL_get (List.getElem?_eq_getElem hlt)] at h1
  exact (Option.some.inj h1).symm
theorem l_open_ok [HasO T dfs 0 d_l_open] {k : Nat} (hk : 1 ≤ k) (ns : List Int) (hn : ns.length ≤ 63) :
    Opt (Phi T F dfs k 0 [.fz (ns.map .int)] []) fun r => ∃ p : Pen, r = ⟨p.d, true, [], []⟩ ∧ p.at_ = 0 := by
  refine Phi_qO (by omega) fun k e => ?_
  subst e
  unfold d_l_open b_l_open
  dsimp only
  walk_at "ev"
  rw [cutL_map, cutL_map]
  refine for_inv (fun pre st => ∃ (cells : List Int) (a b : Option D), st = ⟨[.sh (.fz (ns.map .int)), .ow (.lst (cells.map .int)), vS a, vS b], []⟩ ∧ cells.length = (cutL ns none (some 12)).length) ⟨_, none, none, rfl, rfl⟩ (fun _ _ _ => rfl) ?_ ?_
  · rintro pre x post st e ⟨cells, a, b, rfl, hl⟩
    obtain ⟨v, hv, rfl⟩ := enm_split e
    rw [List.getElem?_map] at hv
    obtain ⟨w, hw, rfl⟩ := Option.map_eq_some_iff.mp hv
    have h12 : cells.length = 12 := by
      have hlt := (List.getElem?_eq_some_iff.mp hw).1
      rw [hl]
      unfold cutL at hlt ⊢
      simp only [HT.sIx, List.length_take, List.length_drop, Int.reduceLT, if_false, Int.reduceToNat, Nat.sub_zero] at hlt ⊢
      omega
    have hm : pre.length % 12 < 12 := Nat.mod_lt _ (by decide)
    walk_at "ev"
    rw [show ((pre.length : Int).fmod 12) = ((pre.length % 12 : Nat) : Int) from fmodN _ 12, at_nat, List.getElem?_map, List.getElem?_eq_getElem (by omega)]
    walk_at "ev"
    rw [show ((pre.length : Int).fmod 12) = ((pre.length % 12 : Nat) : Int) from fmodN _ 12]
    walk_at "ev"
    refine ⟨by omega, cells.set (pre.length % 12) (cells[pre.length % 12]'(by omega) + w), some _, some _, by rw [List.map_set]; rfl, by simpa using hl⟩
  · rintro _ ⟨cells, a, b, rfl, hl⟩
    walk_at "ev"
    exact ⟨⟨cells, 0, 0⟩, rfl, rfl⟩
end
end Py
/-! repr of data: how long it is, which signs it has. -/
namespace Py
open PySem PySem.Spec PyProof.Rows L2 PySem.StrLaws
/-- a text's signs are signs -/
def SgnOk (x : Str) : Prop := ∀ c ∈ x.cps.toList, c < 0x110000
theorem strOk_iff {x : Str} : PyData.strOk x = true ↔ SgnOk x := by
  unfold PyData.strOk SgnOk
  rw [← Array.all_toList, List.all_eq_true]
  simp
theorem sgn_app {x y : Str} (h1 : SgnOk x) (h2 : SgnOk y) : SgnOk (x ++ y) := by
  intro c hc
  rcases mem_cps_append.mp hc with h | h
  · exact h1 c h
  · exact h2 c h
theorem char_lt (c : Char) : c.toNat < 0x110000 := by
  have h := c.valid
  have : c.toNat = c.val.toNat := rfl
  rw [this]
  unfold UInt32.isValidChar Nat.isValidChar at h
  omega
theorem sgn_of (s : String) : SgnOk (Str.ofString s) := by
  intro c hc
  rw [signs_ofString] at hc
  obtain ⟨d, _, rfl⟩ := List.mem_map.mp hc
  exact char_lt d
theorem reprChar_sgn (q c : Nat) (hq : q < 0x110000) (hc : c < 0x110000) : ∀ d ∈ Builtin.Str.reprChar q c, d < 0x110000 := by
  have hx : ∀ w, ∀ d ∈ List.replicate (w - ((Nat.toDigits 16 c).map Char.toNat).length) 48 ++ (Nat.toDigits 16 c).map Char.toNat, d < 0x110000 := by
    intro w d hd
    rcases List.mem_append.mp hd with h | h
    · rw [List.eq_of_mem_replicate h]; decide
    · obtain ⟨e, _, rfl⟩ := List.mem_map.mp h
      exact char_lt e
  intro d hd
  unfold Builtin.Str.reprChar at hd
  dsimp only at hd
  have two : ∀ a b : Nat, a < 0x110000 → b < 0x110000 → d ∈ [a, b] → d < 0x110000 := by
    intro a b ha hb h
    simp only [List.mem_cons, List.not_mem_nil, or_false] at h
    rcases h with rfl | rfl <;> assumption
  split at hd
  · exact two _ _ (by decide) hc hd
  split at hd
  · exact two _ _ (by decide) (by decide) hd
  split at hd
  · exact two _ _ (by decide) (by decide) hd
  split at hd
  · exact two _ _ (by decide) (by decide) hd
  split at hd
  · simp only [List.mem_cons, List.not_mem_nil, or_false] at hd; rw [hd]; exact hc
  split at hd
  · rcases List.mem_append.mp hd with h | h
    · exact two _ _ (by decide) (by decide) h
    · exact hx _ _ h
  split at hd
  · rcases List.mem_append.mp hd with h | h
    · exact two _ _ (by decide) (by decide) h
    · exact hx _ _ h
  · rcases List.mem_append.mp hd with h | h
    · exact two _ _ (by decide) (by decide) h
    · exact hx _ _ h
theorem foldl_repr_mem (q : Nat) : ∀ (l : List Nat) (acc : Array Nat) (d : Nat), d ∈ (l.foldl (fun out c => out ++ (Builtin.Str.reprChar q c).toArray) acc) → d ∈ acc ∨ ∃ c ∈ l, d ∈ Builtin.Str.reprChar q c
  | [], acc, d, h => .inl h
  | c :: r, acc, d, h => by
    rw [List.foldl_cons] at h
    rcases foldl_repr_mem q r _ d h with h | ⟨e, he, h⟩
    · rcases Array.mem_append.mp h with h | h
      · exact .inl h
      · exact .inr ⟨c, List.mem_cons_self .., by simpa using h⟩
    · exact .inr ⟨e, List.mem_cons_of_mem _ he, h⟩
theorem reprText_sgn {x : Str} (h : SgnOk x) : SgnOk (reprText x) := by
  have hq : reprQuote x < 0x110000 := by unfold reprQuote; split <;> decide
  intro d hd
  have hd : d ∈ ((x.cps.foldl (fun out c => out ++ (Builtin.Str.reprChar (reprQuote x) c).toArray) #[reprQuote x]).push (reprQuote x)) := by have h := hd; rw [Array.mem_toList_iff] at h; exact h
  rw [Array.mem_push, ← Array.foldl_toList] at hd
  rcases hd with hd | hd
  · rcases foldl_repr_mem _ _ _ _ hd with h2 | ⟨c, hc, h2⟩
    · have : d = reprQuote x := by simpa using h2
      rw [this]; exact hq
    · exact reprChar_sgn _ _ hq (h c hc) d h2
  · rw [hd]; exact hq
theorem join_sgn {sep : Str} {ts : List Str} (h1 : SgnOk sep) (h2 : ∀ t ∈ ts, SgnOk t) : SgnOk (Str.join sep ts) := by
  intro c hc
  rcases (mem_join sep c ts).mp hc with ⟨t, ht, h⟩ | ⟨_, h⟩
  · exact h2 t ht c h
  · exact h1 c h
theorem textFrom_sgn : ∀ (ts : List Str) (k : Nat) (acc : Str), SgnOk acc → (∀ t ∈ ts, SgnOk t) → SgnOk (textFrom k acc ts)
  | [], _, _, h, _ => h
  | t :: ts, k, acc, h, h2 => textFrom_sgn ts (k + 1) _ (sgn_app (sgn_app h (by split <;> exact sgn_of _)) (h2 t (List.mem_cons_self ..))) fun u hu => h2 u (List.mem_cons_of_mem _ hu)
mutual
/-- at most how long a repr is -/
def wt : D → Nat
  | .non => 4
  | .bl _ => 5
  | .int i => i.natAbs.log2 + 3
  | .str x => 10 * x.length + 2
  | .tup xs => wts xs + 3
  | .lst xs => wts xs + 3
  | .dic kvs => wtk kvs + 3
  | _ => 0
def wts : List D → Nat
  | [] => 0
  | x :: xs => wt x + 2 + wts xs
def wtk : List (D × D) → Nat
  | [] => 0
  | (k, v) :: xs => wt k + wt v + 4 + wtk xs
end
mutual
/-- its ints are not too long -/
def shw : D → Bool
  | .int i => decide (i.natAbs.log2 < 1920)
  | .tup xs => shws xs
  | .lst xs => shws xs
  | .dic kvs => shwk kvs
  | _ => true
def shws : List D → Bool
  | [] => true
  | x :: xs => shw x && shws xs
def shwk : List (D × D) → Bool
  | [] => true
  | (k, v) :: xs => shw k && shw v && shwk xs
end
mutual
theorem shown_sgn : ∀ (d : D) (n : Nat), okR n d = true → SgnOk (toPy d).shown
  | .non, _, _ => sgn_of _
  | .bl b, _, _ => by
    show SgnOk (PyData.shown (.bool b))
    unfold PyData.shown
    split <;> exact sgn_of _
  | .int i, _, _ => sgn_of _
  | .str x, n, h => by
    have : PyData.strOk x = true := by cases n <;> exact h
    exact reprText_sgn (strOk_iff.mp this)
  | .tup xs, n, h => by
    obtain ⟨m, rfl, h⟩ := okR_tup h
    have := shown_sgns xs m h
    show SgnOk (tupleText (PyData.shownAll (toPys xs)))
    unfold tupleText
    exact sgn_app (sgn_app (sgn_of _) (join_sgn (sgn_of _) this)) (by split <;> exact sgn_of _)
  | .lst xs, n, h => by
    obtain ⟨m, rfl, h⟩ := okR_lst h
    have := shown_sgns xs m h
    show SgnOk (listText (PyData.shownAll (toPys xs)))
    unfold listText
    exact sgn_app (textFrom_sgn _ _ _ (sgn_of _) this) (sgn_of _)
  | .dic kvs, n, h => by
    obtain ⟨m, rfl, h⟩ := okR_dic h
    have := shown_sgnk kvs m h
    show SgnOk (PyData.shown (.dict (toPyk kvs)))
    rw [PyData.shown_dict]
    exact sgn_app (sgn_app (sgn_of _) (join_sgn (sgn_of _) this)) (sgn_of _)
  | .obj _, n, h => by cases n <;> cases h
  | .fz _, n, h => by cases n <;> cases h
theorem shown_sgns : ∀ (xs : List D) (n : Nat), xs.all (okR n) = true → ∀ t ∈ PyData.shownAll (toPys xs), SgnOk t
  | [], _, _ => by intro t h; cases h
  | x :: xs, n, h => by
    rw [List.all_cons, Bool.and_eq_true] at h
    intro t ht
    have ht : t ∈ (toPy x).shown :: PyData.shownAll (toPys xs) := ht
    rcases List.mem_cons.mp ht with e | ht
    · rw [e]; exact shown_sgn x n h.1
    · exact shown_sgns xs n h.2 t ht
theorem shown_sgnk : ∀ (xs : List (D × D)) (n : Nat), (xs.all fun p => okR n p.1 && okR n p.2) = true → ∀ t ∈ PyData.shownKv (toPyk xs), SgnOk t
  | [], _, _ => by intro t h; cases h
  | (k, v) :: xs, n, h => by
    obtain ⟨h1, h2, h3⟩ := okR_dic1 h
    intro t ht
    have ht : t ∈ ((toPy k).shown ++ ": " ++ (toPy v).shown) :: PyData.shownKv (toPyk xs) := ht
    rcases List.mem_cons.mp ht with e | ht
    · rw [e]; exact sgn_app (sgn_app (shown_sgn k n h1) (sgn_of _)) (shown_sgn v n h2)
    · exact shown_sgnk xs n h3 t ht
end
mutual
theorem shown_len : ∀ (d : D) (n : Nat), okR n d = true → (toPy d).shown.length ≤ wt d
  | .non, _, _ => by decide
  | .bl b, _, _ => by cases b <;> decide
  | .int i, _, _ => by
    have h := int_text_length_le (a := i) (k := i.natAbs.log2 + 1) (by omega) (by omega)
    show (Str.ofString (toString i)).length ≤ i.natAbs.log2 + 3
    have : (Str.ofString (toString i)).length = (toString i).length := by
      show (Str.ofString (toString i)).cps.size = _
      rw [← Array.length_toList, signs_ofString, List.length_map]
      simp [String.length]
    omega
  | .str x, n, h => by
    have h : PyData.strOk x = true := by cases n <;> exact h
    exact reprText_len x fun c hc => Nat.lt_trans (strOk_iff.mp h c hc) (by decide)
  | .tup xs, n, h => by
    obtain ⟨m, rfl, h⟩ := okR_tup h
    have := shown_lens xs m h
    show (tupleText (PyData.shownAll (toPys xs))).length ≤ wts xs + 3
    unfold tupleText
    rw [strLen_append, strLen_append]
    have e1 : ((("(" : String) : Str)).length = 1 := rfl
    have e3 : (((if (PyData.shownAll (toPys xs)).length == 1 then ",)" else ")" : String) : Str)).length ≤ 2 := by split <;> decide
    have e2 : (Str.join ", " (PyData.shownAll (toPys xs))).length ≤ piled (PyData.shownAll (toPys xs)) := by
      by_cases z : PyData.shownAll (toPys xs) = []
      · rw [z]; exact Nat.le_refl _
      · have := join_length_add _ z
        omega
    omega
  | .lst xs, n, h => by
    obtain ⟨m, rfl, h⟩ := okR_lst h
    have := shown_lens xs m h
    show (listText (PyData.shownAll (toPys xs))).length ≤ wts xs + 3
    unfold listText
    rw [strLen_append]
    have e1 : ((("]" : String) : Str)).length = 1 := rfl
    have e2 : (textFrom 0 "[" (PyData.shownAll (toPys xs))).length ≤ 1 + piled (PyData.shownAll (toPys xs)) := by
      cases PyData.shownAll (toPys xs) with
      | nil => decide
      | cons t r =>
        show (textFrom 1 (("[" : Str) ++ (if (0 : Nat) > 0 then ", " else "" : String) ++ t) r).length ≤ _
        rw [textFrom_length_pos _ _ _ (by omega), strLen_append, strLen_append, piled_cons]
        have z1 : ((("[" : String) : Str)).length = 1 := rfl
        have z2 : (((if (0 : Nat) > 0 then ", " else "" : String) : Str)).length = 0 := rfl
        omega
    omega
  | .dic kvs, n, h => by
    obtain ⟨m, rfl, h⟩ := okR_dic h
    have := shown_lenk kvs m h
    show (PyData.shown (.dict (toPyk kvs))).length ≤ wtk kvs + 3
    rw [PyData.shown_dict, strLen_append, strLen_append]
    have e1 : ((("{" : String) : Str)).length = 1 := rfl
    have e3 : ((("}" : String) : Str)).length = 1 := rfl
    have e2 : (Str.join ", " (PyData.shownKv (toPyk kvs))).length ≤ piled (PyData.shownKv (toPyk kvs)) := by
      by_cases z : PyData.shownKv (toPyk kvs) = []
      · rw [z]; exact Nat.le_refl _
      · have := join_length_add _ z
        omega
    omega
  | .obj _, n, h => by cases n <;> cases h
  | .fz _, n, h => by cases n <;> cases h
theorem shown_lens : ∀ (xs : List D) (n : Nat), xs.all (okR n) = true → piled (PyData.shownAll (toPys xs)) ≤ wts xs
  | [], _, _ => Nat.le_refl _
  | x :: xs, n, h => by
    rw [List.all_cons, Bool.and_eq_true] at h
    have h1 := shown_len x n h.1
    have h2 := shown_lens xs n h.2
    show piled ((toPy x).shown :: PyData.shownAll (toPys xs)) ≤ wt x + 2 + wts xs
    rw [piled_cons]
    omega
theorem shown_lenk : ∀ (xs : List (D × D)) (n : Nat), (xs.all fun p => okR n p.1 && okR n p.2) = true → piled (PyData.shownKv (toPyk xs)) ≤ wtk xs
  | [], _, _ => Nat.le_refl _
  | (k, v) :: xs, n, h => by
    obtain ⟨h1, h2, h3⟩ := okR_dic1 h
    have a := shown_len k n h1
    have b := shown_len v n h2
    have c := shown_lenk xs n h3
    show piled (((toPy k).shown ++ ": " ++ (toPy v).shown) :: PyData.shownKv (toPyk xs)) ≤ wt k + wt v + 4 + wtk xs
    rw [piled_cons, strLen_append, strLen_append]
    have e1 : (((": " : String) : Str)).length = 2 := rfl
    omega
end
mutual
theorem shw_ok : ∀ (d : D), shw d = true → (toPy d).showable = true
  | .non, _ => rfl
  | .bl b, _ => rfl
  | .int i, h => h
  | .str x, _ => rfl
  | .tup xs, h => shws_ok xs h
  | .lst xs, h => shws_ok xs h
  | .dic kvs, h => shwk_ok kvs h
  | .obj _, h => rfl
  | .fz _, h => rfl
theorem shws_ok : ∀ (xs : List D), shws xs = true → PyData.showableAll (toPys xs) = true
  | [], _ => rfl
  | x :: xs, h => by
    have h : (shw x && shws xs) = true := h
    rw [Bool.and_eq_true] at h
    show ((toPy x).showable && PyData.showableAll (toPys xs)) = true
    rw [shw_ok x h.1, shws_ok xs h.2]; rfl
theorem shwk_ok : ∀ (xs : List (D × D)), shwk xs = true → PyData.showableKv (toPyk xs) = true
  | [], _ => rfl
  | (k, v) :: xs, h => by
    have h : (shw k && shw v && shwk xs) = true := h
    rw [Bool.and_eq_true, Bool.and_eq_true] at h
    show ((toPy k).showable && (toPy v).showable && PyData.showableKv (toPyk xs)) = true
    rw [shw_ok k h.1.1, shw_ok v h.1.2, shwk_ok xs h.2]; rfl
end
mutual
theorem shw_wt : ∀ (d : D), wt d < 1900 → shw d = true
  | .non, _ => rfl
  | .bl b, _ => rfl
  | .int i, h => by
    have h : i.natAbs.log2 + 3 < 1900 := h
    show decide (i.natAbs.log2 < 1920) = true
    rw [decide_eq_true_eq]; omega
  | .str x, _ => rfl
  | .tup xs, h => by have h : wts xs + 3 < 1900 := h; exact shws_wt xs (by omega)
  | .lst xs, h => by have h : wts xs + 3 < 1900 := h; exact shws_wt xs (by omega)
  | .dic kvs, h => by have h : wtk kvs + 3 < 1900 := h; exact shwk_wt kvs (by omega)
  | .obj _, h => rfl
  | .fz _, h => rfl
theorem shws_wt : ∀ (xs : List D), wts xs < 1900 → shws xs = true
  | [], _ => rfl
  | x :: xs, h => by
    have h : wt x + 2 + wts xs < 1900 := h
    show (shw x && shws xs) = true
    rw [shw_wt x (by omega), shws_wt xs (by omega)]; rfl
theorem shwk_wt : ∀ (xs : List (D × D)), wtk xs < 1900 → shwk xs = true
  | [], _ => rfl
  | (k, v) :: xs, h => by
    have h : wt k + wt v + 4 + wtk xs < 1900 := h
    show (shw k && shw v && shwk xs) = true
    rw [shw_wt k (by omega), shw_wt v (by omega), shwk_wt xs (by omega)]; rfl
end
def reprD (d : D) : Str := (toPy d).shown
theorem repr_any {d : D} (h1 : okR 60 d = true) (h2 : shw d = true) (h3 : wt d ≤ lim) : primX .repr [d] = some (.str (reprD d), false) := by
  show (if okR 60 d && (toPy d).showable && decide ((toPy d).shown.length ≤ lim) then some (D.str (toPy d).shown, false) else none) = _
  rw [if_pos]
  · rfl
  · rw [Bool.and_eq_true, Bool.and_eq_true, decide_eq_true_eq]
    exact ⟨⟨h1, shw_ok _ h2⟩, Nat.le_trans (shown_len _ _ h1) h3⟩
theorem repr_tup {xs : List D} (h1 : okE 60 (.tup xs) = true) (h2 : shw (.tup xs) = true) (h3 : wt (.tup xs) ≤ lim) : primX .repr [.tup xs] = some (.str (reprD (.tup xs)), false) := repr_any (okR_of _ _ h1) h2 h3
theorem repr_lst {xs : List D} (h1 : okE 60 (.lst xs) = true) (h2 : shw (.lst xs) = true) (h3 : wt (.lst xs) ≤ lim) : primX .repr [.lst xs] = some (.str (reprD (.lst xs)), false) := repr_any (okR_of _ _ h1) h2 h3
theorem okR_reprD {d : D} {n m : Nat} (h : okR n d = true) : okE m (.str (reprD d)) = true := by
  have : PyData.strOk (reprD d) = true := strOk_iff.mpr (shown_sgn d n h)
  cases m <;> exact this
theorem okE_reprD {d : D} {n m : Nat} (h : okE n d = true) : okE m (.str (reprD d)) = true := okR_reprD (okR_of _ _ h)
/-- a repr equals itself -/
theorem eq_reprD {d : D} {n : Nat} (h : okR n d = true) : eqD (.str (reprD d)) (.str (reprD d)) = true := by unfold eqD; exact beq_self_eq_true _
mutual
theorem eqD_refl : ∀ (d : D) (n : Nat), okE n d = true → eqD d d = true
  | .non, _, _ => rfl
  | .bl b, _, _ => by unfold eqD; exact beq_self_eq_true _
  | .int i, _, _ => by unfold eqD; exact beq_self_eq_true _
  | .str x, _, _ => by unfold eqD; exact beq_self_eq_true _
  | .tup xs, n, h => by
    obtain ⟨m, rfl, h⟩ := okE_tup h
    exact eqDs_refl xs m h
  | .lst xs, n, h => by
    obtain ⟨m, rfl, h⟩ := okE_lst h
    exact eqDs_refl xs m h
  | .dic _, n, h => by cases n <;> cases h
  | .obj _, n, h => by cases n <;> cases h
  | .fz _, n, h => by cases n <;> cases h
theorem eqDs_refl : ∀ (xs : List D) (n : Nat), xs.all (okE n) = true → eqDs xs xs = true
  | [], _, _ => rfl
  | x :: xs, n, h => by
    rw [List.all_cons, Bool.and_eq_true] at h
    show (eqD x x && eqDs xs xs) = true
    rw [eqD_refl x n h.1, eqDs_refl xs n h.2]; rfl
end
end Py
/-! Alphabets. -/
namespace Py
open PySem PySem.Spec PyProof.Rows L2
local macro_rules | `(tactic| walk_at "ev") => `(tactic| simp -implicitDefEqProofs -dsimp only [nrm_some, ↓kP_mk, ↓kT_mk, ↓kR_mk, ↓kRet_mk, ↓Opt_some, Opt_some, Opt_none, ↓E_loc, ↓E_cst, ↓E_tup, ↓E_lst, ↓E_bin, ↓E_cmp, ↓E_idx, ↓E_chn, ↓E_not, ↓E_and, ↓E_or, ↓E_ite, ↓E_neg, ↓E_callC, ↓E_callO, ↓E_slc, ↓E_rev, ↓E_dnew, ↓E_isi, ↓E_mth, ↓E_mut, ↓E_lc, ↓E_sset, ↓E_lrg, ↓E_trg, ↓E_prm', il_cst, in_cst, il_fld, in_fld, il_nop, il_tup, in_tup, il_lst, in_lst, il_dic, in_dic, il_bin, in_bin, il_neg, in_neg, il_not, in_not, il_cmp, in_cmp, il_chn, in_chn, il_and, in_and, il_or, in_or, il_ite, in_ite, il_call, in_call, il_ocall, in_ocall, il_make, in_make, il_prm, in_prm, il_isi, in_isi, il_idx, in_idx, il_slc, in_slc, il_rev, in_rev, il_mth, in_mth, il_mut, in_mut, il_lc, in_lc, in_loc, ns_len, ns_sum, ns_min, ns_max, ns_min2, ns_max2, ns_sorted, ns_all, ns_any, ns_list, ns_tuple, ns_dict, ns_int, ns_abs, ns_repr, ns_lset, ↓pt_nop, ↓pt_e', ↓arg_loc, ↓arg_ne, ↓A2_q, ↓L_nil, ↓L_cons, ↓Ar_nil, ↓Ar_cons, ↓CA_nil, ↓CA_cons, ↓ca_val, ↓ca_keep, ↓ca_lend, ↓I_nil, ↓I_one, ↓src_val, ↓src_rng1, ↓src_rng2, ↓src_enm, ↓src_zip, ↓src_zips, ↓S_asg, ↓S_asgT, ↓S_par, ↓P_nil, ↓P_cons, ↓S_seti, ↓S_augi, ↓S_aug, ↓S_exp, ↓S_ite, ↓S_for, ↓S_retL, ↓S_ret, ↓S_retN, ↓S_brk, ↓S_cnt, ↓S_pas, ↓Ss_nil, ↓Ss_one, ↓Ss_cons, ↓locK_sh, ↓locK_ow, ↓blK_bl, ↓intK_int, ↓argK_sh, ↓argK_ow, ↓argK_io, ↓keepK_val, ↓keepK_pl, ↓lendK_val, ↓lendK_pl, ↓srcK_val, ↓srcK_pl, ↓shK_sh, ↓retK_ow, ↓retK_sh, ↓seqK_nx, ↓seqK_bk, ↓seqK_ct, ↓seqK_rt, ↓endK_rt, ↓endK_nx, ↓turnK_nx, ↓turnK_ct, ↓turnK_bk, ↓turnK_rt, set_mk, at_mk, getD0, getDs, dat_sh, dat_ow, dat_io, own_sh, own_ow, own_io, own_no, upd_ow, upd_io, avdat_val, avdat_pl, vS_s, vS_n, oS_s, oS_n, putOk_vS, putOk_oS, slen, putOk_no, putOk_sh, putOk_ow, okE_int, okE_bl, okE_non, eq_int, eq_bl, Int.zero_add, frS_t, frS_f, ↓putO_eq, ↓asg_nm, asg_tup, asg_lst, putL_nil, ↓putL_cons, putF_nil, ↓putF_cons, wipeT_mk, wipe_nil, wipe_cons, back_nil, back_cons, shO_vS, shO_sh, shO_no, shO_ow, dats_nil, ↓dats_cons, io_nil, io_skip, io_new, ioK_ow, ioK_io, io_pl, outs_nil, ↓outs_t, outs_f, par_t, par_f, par_nil, b_add, b_sub, b_addT, b_addS, b_addL, b_mul, b_mod, b_div, b_pow, b_mulL, b_mulT, r_lst, r_tup, r_str, p_lenS, p_lstS, i_str, l_str, m_ins, m_app, m_ext, x_str, g_add, c_lt, c_le, c_gt, c_ge, c_ltS, c_leS, c_isB, c_isntB, c_is, c_isnt, isNon_oD, isNone_s, isNone_n, isNon_non, isNon_int, isNon_bl, isNon_str, isNon_tup, isNon_lst, noO_oD, okE_oD, c_eq, c_ne, c_in, c_notin, x_lst, x_tup, p_lenL, p_lenT, p_tupL, p_tupT, p_lstL, p_lstT, p_lstF, k_lst, k_str, k_tup, i_lst, i_tup, l_fz, l_lst, l_tup, t_nil, ↓t_cons, tyOf, at_nat, at_lit, ↓fn_q, ↓Opt_iteN, Opt_iteN, Opt_map, List.replicate, List.cons_append, List.nil_append, List.getElem?_cons_zero, List.getElem?_cons_succ, List.set_cons_zero, List.set_cons_succ, ↓iteP_t, ↓iteP_f, iteP_t, iteP_f, ↓reduceIte, Bool.false_eq_true, true_and, and_true, Bool.not_true, Bool.not_false, Bool.and_false, Bool.and_true, Bool.true_and, Bool.false_and, decide_true, decide_false, decide_eq_true_eq, List.any_cons, List.any_nil, Bool.or_false, Bool.or_true, Bool.true_or, Bool.false_or, id, avPls, frN, List.length_cons, List.length_nil, Nat.reduceAdd, Nat.reduceLeDiff, Nat.reduceLT, Int.reduceLE, Int.reduceLT, Int.reduceNeg, Int.reducePow, Int.reduceAdd, Int.reduceMul, Int.reduceSub, Nat.reducePow, Int.reduceToNat, nabs_lit, Int.natAbs_natCast, Int.reduceNe, Int.reduceEq, Nat.reduceMul, Nat.reduceSub, ne_eq, not_false_eq_true, not_true_eq_false, reduceCtorEq, and_self, Nat.reduceEqDiff, set_nat, set_lit, noO_pen, lim_eq, fmodN, fdivN, List.length_map, List.map_set, eq_lst_nil, chars_eq, noO_ch, eq_ch, keep_bl, keep_int, keep_non, keep_str, Bool.and_eq_true, and_assoc, p_intB, p_intI, noO_int, noO_bl, noO_non, noO_str, List.all_cons, List.all_nil, List.nodup_nil, List.nodup_cons, List.mem_cons, List.not_mem_nil, Pl.loc.injEq, or_false, false_or, or_true, true_or, Nat.le_refl, Nat.zero_le, Int.cast_ofNat_Int])
structure Alpha (z : Str) : Prop where
  lo : 1 ≤ z.cps.size
  hi : z.cps.size ≤ 4
  sg : ∀ c ∈ z.cps.toList, 33 ≤ c ∧ c ≤ 126
  up : z.cps.toList.Pairwise (· < ·)
theorem asStrs_ch : ∀ cs : List Nat, asStrs (cs.map chD) = some (cs.map one)
  | [] => rfl
  | c :: cs => by
    show (asStrs (cs.map chD)).map (one c :: ·) = _
    rw [asStrs_ch cs]; rfl
theorem asInts_ch {cs : List Nat} (h : cs ≠ []) : asInts (cs.map chD) = none := by
  cases cs with
  | nil => exact absurd rfl h
  | cons c cs => rfl
theorem ltS_one (a b : Nat) : ltS (one a) (one b) = decide (a < b) := by
  unfold ltS one
  simp [List.cons_lt_cons_iff]
theorem leS_one {a b : Nat} : leS (one a) (one b) ↔ a ≤ b := by
  unfold leS
  rw [ltS_one]; simp
/-- the rising list of the same signs -/
theorem sorted_ch (cs : List Nat) : ∃ cs' : List Nat, srtS (seenK (cs.map one)) = cs'.map one ∧ cs'.Pairwise (· < ·) ∧ (∀ c, c ∈ cs' ↔ c ∈ cs) ∧ cs'.length ≤ cs.length := by
  have hm : ∀ x ∈ srtS (seenK (cs.map one)), ∃ c ∈ cs, x = one c := by
    intro x hx
    have := (srtS_perm _).mem_iff.mp hx
    rw [seen_mem] at this
    obtain ⟨c, hc, rfl⟩ := List.mem_map.mp this
    exact ⟨c, hc, rfl⟩
  have hnd : (srtS (seenK (cs.map one))).Nodup := (srtS_perm _).nodup_iff.mpr (seen_nodup _)
  have hs := srtS_sorted (seenK (cs.map one))
  have hl : (srtS (seenK (cs.map one))).length ≤ cs.length := by
    rw [(srtS_perm _).length_eq]
    have := seen_len (cs.map one)
    simpa using this
  have hmem : ∀ c, one c ∈ srtS (seenK (cs.map one)) ↔ c ∈ cs := by
    intro c
    rw [(srtS_perm _).mem_iff, seen_mem, List.mem_map]
    exact ⟨fun ⟨d, hd, e⟩ => by rw [← one_inj e]; exact hd, fun h => ⟨c, h, rfl⟩⟩
  generalize srtS (seenK (cs.map one)) = l at hm hnd hs hl hmem
  have : ∀ l : List Str, (∀ x ∈ l, ∃ c ∈ cs, x = one c) → ∃ cs' : List Nat, l = cs'.map one := by
    intro l
    induction l with
    | nil => intro _; exact ⟨[], rfl⟩
    | cons x l ih =>
      intro h
      obtain ⟨c, _, rfl⟩ := h x (List.mem_cons_self ..)
      obtain ⟨cs', rfl⟩ := ih fun y hy => h y (List.mem_cons_of_mem _ hy)
      exact ⟨c :: cs', rfl⟩
  obtain ⟨cs', rfl⟩ := this l hm
  refine ⟨cs', rfl, ?_, fun c => ?_, by simpa using hl⟩
  · rw [List.pairwise_map] at hs
    have hnd : cs'.Nodup := by
      have := List.pairwise_map.mp hnd
      exact this.imp fun h e => h (by rw [e])
    have := hs.and hnd
    exact this.imp fun {a b} ⟨h1, h2⟩ => Nat.lt_of_le_of_ne (leS_one.mp h1) h2
  · rw [← hmem c, List.mem_map]
    exact ⟨fun h => ⟨c, h, rfl⟩, fun ⟨d, hd, e⟩ => by rw [← one_inj e]; exact hd⟩
theorem strjoin_ones : ∀ cs : List Nat, Str.join (Str.ofString "") (cs.map one) = ⟨cs.toArray⟩
  | [] => rfl
  | [c] => rfl
  | c :: d :: cs => by
    have ih := strjoin_ones (d :: cs)
    show one c ++ Str.ofString "" ++ Str.join (Str.ofString "") ((d :: cs).map one) = _
    rw [ih]
    show (⟨(#[c] ++ (Str.ofString "").cps) ++ (d :: cs).toArray⟩ : Str) = _
    have e : (Str.ofString "").cps = #[] := by decide +kernel
    rw [e]
    simp
theorem join_ones (cs : List Nat) : Txt.join (Str.ofString "") (cs.map one) = ⟨cs.toArray⟩ := (PySem.StrLaws.glued_eq_join _ _).trans (strjoin_ones cs)
theorem ssetD_ch (cs : List Nat) (h : cs ≠ []) (hl : cs.length ≤ 62) : ssetD (.lst (cs.map chD)) = some (.lst ((srtS (seenK (cs.map one))).map .str)) := by
  unfold ssetD
  simp only [List.length_map]
  rw [if_pos (by omega), asInts_ch h, asStrs_ch]
theorem sum_ones : ∀ cs : List Nat, ((cs.map one).map (·.length)).sum = cs.length
  | [] => rfl
  | c :: cs => by
    have := sum_ones cs
    simp only [List.map_cons, List.sum_cons, List.length_cons, this]
    show 1 + _ = _
    omega
theorem join_ch (cs : List Nat) (hl : cs.length ≤ 62) : mthF .join (.str (Str.ofString "")) [.lst (cs.map chD)] = some (.str ⟨cs.toArray⟩, false) := by
  unfold mthF
  simp only [asStrs_ch, join_ones, sum_ones, List.length_map]
  have e : (Str.ofString "").length = 0 := by decide +kernel
  rw [if_pos (by rw [e]; omega)]
def poolS : Str := Str.ofString "!\"#$&'()*+,-./0123456789:;<=>?@ABCDEFGHIJKLMNOPQRSTUVWXYZ[\\]^_`abcdefghijklmnopqrstuvwxyz{|}~"
theorem poolS_len : poolS.cps.size = 93 := by decide +kernel
theorem poolS_sg : ∀ c ∈ poolS.cps.toList, 33 ≤ c ∧ c ≤ 126 := by decide +kernel
theorem pool_at (i : Int) (h0 : 0 ≤ i) (h1 : i < 93) : ∃ c, atI poolS.cps.toList i = some c ∧ 33 ≤ c ∧ c ≤ 126 := by
  obtain ⟨j, rfl⟩ := Int.eq_ofNat_of_zero_le h0
  have hl : poolS.cps.toList.length = 93 := by rw [Array.length_toList]; exact poolS_len
  rw [at_nat, List.getElem?_eq_getElem (by omega)]
  exact ⟨_, rfl, poolS_sg _ (List.getElem_mem _)⟩
section
variable {T : Tab} {F : Nat} {dfs : Nat → Option Dfn} [HasD T dfs 1 d_l_spread false] [HasD T dfs 2 d_l_take false]
theorem l_draw_alphabet_ok [HasD T dfs 4 d_l_draw_alphabet false] {k : Nat} (hk : 3 ≤ k) (p : Pen) (n : Nat) (hn : 1 ≤ n) (hn2 : n ≤ 4) (hp : p.at_ ≤ 100000000) :
    Opt (Phi T F dfs k 4 [p.d, .int n] []) fun r => ∃ (z : Str) (p' : Pen), r = ⟨.str z, false, [p'.d], []⟩ ∧ Alpha z ∧ z.cps.size ≤ n ∧ p'.at_ ≤ p.at_ + 2 := by
  refine Phi_q (by omega) fun k e => ?_
  subst e
  unfold d_l_draw_alphabet b_l_draw_alphabet
  dsimp only
  rw [show Str.ofString "!\"#$&'()*+,-./0123456789:;<=>?@ABCDEFGHIJKLMNOPQRSTUVWXYZ[\\]^_`abcdefghijklmnopqrstuvwxyz{|}~" = poolS from rfl]
  walk_at "ev"
  rw [poolS_len]
  walk_at "ev"
  refine Opt_mono (l_take_ok (by omega) p 93 (by decide) (by decide) (by omega)) ?_
  rintro _ ⟨x1, p1, rfl, hx1, hp1⟩
  walk_at "ev"
  refine Opt_mono (l_take_ok (by omega) p1 9 (by decide) (by decide) (by omega)) ?_
  rintro _ ⟨x2, p2, rfl, hx2, hp2⟩
  walk_at "ev"
  refine ⟨.inl (by decide), by omega, by omega, ?_⟩
  refine lcLp_same (fun pre ys => ∃ cs : List Nat, ys = cs.map chD ∧ cs.length = pre.length ∧ ∀ c ∈ cs, 33 ≤ c ∧ c ≤ 126) rfl (fun _ _ => rfl) ⟨[], rfl, rfl, by simp⟩ ?_ ?_
  · rintro pre _ post _ e ⟨cs, rfl, hl, hc⟩
    obtain ⟨rfl, hk⟩ := rngL_split e
    walk_at "ev"
    rw [poolS_len]
    obtain ⟨c, e1, h1⟩ := pool_at ((x1 + (1 + 2 * x2) * pre.length : Int).fmod 93) (fm0 _ (by decide)) (fm1 _ (by decide))
    refine ⟨.inl (by omega), by decide, by decide, by decide, ?_⟩
    rw [show ((93 : Nat) : Int) = 93 from rfl, e1]
    walk_at "ev"
    refine ⟨cs ++ [c], by rw [List.map_append]; rfl, by simp [hl], fun d hd => ?_⟩
    rcases List.mem_append.mp hd with h | h
    · exact hc d h
    · simp only [List.mem_cons, List.not_mem_nil, or_false] at h
      rw [h]; exact h1
  · rintro _ e ⟨cs, rfl, hl, hc⟩ he
    rw [he]
    walk_at "ev"
    rw [rngL_ln] at hl
    have hne : cs ≠ [] := by rintro rfl; simp at hl; omega
    obtain ⟨cs', e1, h1, h2, h3⟩ := sorted_ch cs
    rw [ssetD_ch cs hne (by omega), e1, show (cs'.map one).map D.str = cs'.map chD from List.map_map ..]
    walk_at "ev"
    rw [join_ch _ (by omega)]
    walk_at "ev"
    have hne' : cs' ≠ [] := by
      rintro rfl
      cases cs with
      | nil => exact hne rfl
      | cons c cs => exact absurd ((h2 c).mpr (List.mem_cons_self ..)) (by simp)
    refine ⟨_, p2, rfl, ⟨?_, ?_, ?_, ?_⟩, ?_, by omega⟩
    · show 1 ≤ cs'.length
      exact List.length_pos_iff.mpr hne'
    · show cs'.length ≤ 4
      omega
    · intro c hc'
      exact hc c ((h2 c).mp (by simpa using hc'))
    · simpa using h1
    · show cs'.length ≤ n
      omega
end
end Py
/-! Channels drawn. -/
namespace Py
open PySem PySem.Spec PyProof.Rows L2
local macro_rules | `(tactic| walk_at "ev") => `(tactic| simp -implicitDefEqProofs -dsimp only [nrm_some, ↓kP_mk, ↓kT_mk, ↓kR_mk, ↓kRet_mk, ↓Opt_some, Opt_some, Opt_none, ↓E_loc, ↓E_cst, ↓E_tup, ↓E_lst, ↓E_bin, ↓E_cmp, ↓E_idx, ↓E_chn, ↓E_not, ↓E_and, ↓E_or, ↓E_ite, ↓E_neg, ↓E_callC, ↓E_callO, ↓E_slc, ↓E_rev, ↓E_dnew, ↓E_isi, ↓E_mth, ↓E_mut, ↓E_lc, ↓E_sset, ↓E_lrg, ↓E_trg, ↓E_prm', il_cst, in_cst, il_fld, in_fld, il_nop, il_tup, in_tup, il_lst, in_lst, il_dic, in_dic, il_bin, in_bin, il_neg, in_neg, il_not, in_not, il_cmp, in_cmp, il_chn, in_chn, il_and, in_and, il_or, in_or, il_ite, in_ite, il_call, in_call, il_ocall, in_ocall, il_make, in_make, il_prm, in_prm, il_isi, in_isi, il_idx, in_idx, il_slc, in_slc, il_rev, in_rev, il_mth, in_mth, il_mut, in_mut, il_lc, in_lc, in_loc, ns_len, ns_sum, ns_min, ns_max, ns_min2, ns_max2, ns_sorted, ns_all, ns_any, ns_list, ns_tuple, ns_dict, ns_int, ns_abs, ns_repr, ns_lset, ↓pt_nop, ↓pt_e', ↓arg_loc, ↓arg_ne, ↓A2_q, ↓L_nil, ↓L_cons, ↓Ar_nil, ↓Ar_cons, ↓CA_nil, ↓CA_cons, ↓ca_val, ↓ca_keep, ↓ca_lend, ↓I_nil, ↓I_one, ↓src_val, ↓src_rng1, ↓src_rng2, ↓src_enm, ↓src_zip, ↓src_zips, ↓S_asg, ↓S_asgT, ↓S_par, ↓P_nil, ↓P_cons, ↓S_seti, ↓S_augi, ↓S_aug, ↓S_exp, ↓S_ite, ↓S_for, ↓S_retL, ↓S_ret, ↓S_retN, ↓S_brk, ↓S_cnt, ↓S_pas, ↓Ss_nil, ↓Ss_one, ↓Ss_cons, ↓locK_sh, ↓locK_ow, ↓blK_bl, ↓intK_int, ↓argK_sh, ↓argK_ow, ↓argK_io, ↓keepK_val, ↓keepK_pl, ↓lendK_val, ↓lendK_pl, ↓srcK_val, ↓srcK_pl, ↓shK_sh, ↓retK_ow, ↓retK_sh, ↓seqK_nx, ↓seqK_bk, ↓seqK_ct, ↓seqK_rt, ↓endK_rt, ↓endK_nx, ↓turnK_nx, ↓turnK_ct, ↓turnK_bk, ↓turnK_rt, set_mk, at_mk, getD0, getDs, dat_sh, dat_ow, dat_io, own_sh, own_ow, own_io, own_no, upd_ow, upd_io, avdat_val, avdat_pl, vS_s, vS_n, oS_s, oS_n, putOk_vS, putOk_oS, slen, putOk_no, putOk_sh, putOk_ow, okE_int, okE_bl, okE_non, eq_int, eq_bl, Int.zero_add, frS_t, frS_f, ↓putO_eq, ↓asg_nm, asg_tup, asg_lst, putL_nil, ↓putL_cons, putF_nil, ↓putF_cons, wipeT_mk, wipe_nil, wipe_cons, back_nil, back_cons, shO_vS, shO_sh, shO_no, shO_ow, dats_nil, ↓dats_cons, io_nil, io_skip, io_new, ioK_ow, ioK_io, io_pl, outs_nil, ↓outs_t, outs_f, par_t, par_f, par_nil, b_add, b_sub, b_addT, b_addS, b_addL, b_mul, b_mod, b_div, b_pow, b_mulL, b_mulT, r_lst, r_tup, r_str, p_lenS, p_lstS, i_str, l_str, m_ins, m_app, m_ext, x_str, g_add, c_lt, c_le, c_gt, c_ge, c_ltS, c_leS, c_isB, c_isntB, c_is, c_isnt, isNon_oD, isNone_s, isNone_n, isNon_non, isNon_int, isNon_bl, isNon_str, isNon_tup, isNon_lst, noO_oD, okE_oD, c_eq, c_ne, c_in, c_notin, x_lst, x_tup, p_lenL, p_lenT, p_tupL, p_tupT, p_lstL, p_lstT, p_lstF, k_lst, k_str, k_tup, i_lst, i_tup, l_fz, l_lst, l_tup, t_nil, ↓t_cons, tyOf, at_nat, at_lit, ↓fn_q, ↓Opt_iteN, Opt_iteN, Opt_map, List.replicate, List.cons_append, List.nil_append, List.getElem?_cons_zero, List.getElem?_cons_succ, List.set_cons_zero, List.set_cons_succ, ↓iteP_t, ↓iteP_f, iteP_t, iteP_f, ↓reduceIte, Bool.false_eq_true, true_and, and_true, Bool.not_true, Bool.not_false, Bool.and_false, Bool.and_true, Bool.true_and, Bool.false_and, decide_true, decide_false, decide_eq_true_eq, List.any_cons, List.any_nil, Bool.or_false, Bool.or_true, Bool.true_or, Bool.false_or, id, avPls, frN, List.length_cons, List.length_nil, Nat.reduceAdd, Nat.reduceLeDiff, Nat.reduceLT, Int.reduceLE, Int.reduceLT, Int.reduceNeg, Int.reducePow, Int.reduceAdd, Int.reduceMul, Int.reduceSub, Nat.reducePow, Int.reduceToNat, nabs_lit, Int.natAbs_natCast, Int.reduceNe, Int.reduceEq, Nat.reduceMul, Nat.reduceSub, ne_eq, not_false_eq_true, not_true_eq_false, reduceCtorEq, and_self, Nat.reduceEqDiff, set_nat, set_lit, noO_pen, lim_eq, fmodN, fdivN, List.length_map, List.map_set, eq_lst_nil, chars_eq, noO_ch, eq_ch, keep_bl, keep_int, keep_non, keep_str, Bool.and_eq_true, and_assoc, p_intB, p_intI, noO_int, noO_bl, noO_non, noO_str, List.all_cons, List.all_nil, List.nodup_nil, List.nodup_cons, List.mem_cons, List.not_mem_nil, Pl.loc.injEq, or_false, false_or, or_true, true_or, Nat.le_refl, Nat.zero_le, Int.cast_ofNat_Int])
abbrev Ent := List (Option Nat)
def entD (e : Ent) : D := .tup (e.map oD)
def staD (s : List Ent) : D := .tup (s.map entD)
structure Chan where
  ins : Str
  outs : Str
  sts : List (List Ent)
def Chan.d (c : Chan) : D := .tup [.str c.ins, .str c.outs, .tup (c.sts.map staD)]
structure EntOk (e : Ent) (w n : Nat) : Prop where
  len : e.length = w
  lt : ∀ m, some m ∈ e → m < n
  ex : ∃ m, some m ∈ e
structure StaOk (s : List Ent) (i w n : Nat) : Prop where
  len : s.length = i
  ok : ∀ e ∈ s, EntOk e w n
structure Chan.Ok (c : Chan) : Prop where
  ai : Alpha c.ins
  ao : Alpha c.outs
  lo : 1 ≤ c.sts.length
  hi : c.sts.length ≤ 4
  ok : ∀ s ∈ c.sts, StaOk s c.ins.cps.size c.outs.cps.size c.sts.length
theorem all_map {α : Type} {f : α → D} {p : D → Bool} {l : List α} (h : ∀ a ∈ l, p (f a) = true) : (l.map f).all p = true := by
  rw [List.all_map, List.all_eq_true]; exact h
theorem noO_entD (n : Nat) (e : Ent) : noO (n + 1) (entD e) = true := by
  unfold entD
  rw [noO_tup]
  exact all_map fun o _ => noO_oD n o
theorem noO_staD (n : Nat) (e : List Ent) : noO (n + 2) (staD e) = true := by
  unfold staD
  rw [noO_tup]
  exact all_map fun o _ => noO_entD n o
theorem noO_chan (c : Chan) : noO 40 c.d = true := by
  unfold Chan.d
  rw [noO_tup, List.all_cons, List.all_cons, List.all_cons, noO_str, noO_str, noO_tup]
  rw [all_map fun o _ => noO_staD 36 o]; rfl
def keepD (x : D) : Option D := if isNonD x = true then none else some x
theorem keep_map (e : Ent) : (e.map oD).filterMap keepD = (e.filter Option.isSome).map oD := by
  induction e with
  | nil => rfl
  | cons o e ih => cases o <;> simp [keepD, oD, isNonD, ← ih]
section
variable {T : Tab} {F : Nat} {dfs : Nat → Option Dfn} [HasD T dfs 1 d_l_spread false] [HasD T dfs 2 d_l_take false]
theorem l_draw_entry_ok [HasD T dfs 5 d_l_draw_entry false] {k : Nat} (hk : 3 ≤ k) (p : Pen) (w n f : Nat) (hw : 1 ≤ w) (hw2 : w ≤ 4) (hn : 1 ≤ n) (hn2 : n ≤ 4) (hp : p.at_ ≤ 100000000) :
    Opt (Phi T F dfs k 5 [p.d, .int w, .int n, .int f] []) fun r => ∃ (e : Ent) (p' : Pen), r = ⟨entD e, false, [p'.d], []⟩ ∧ EntOk e w n ∧ p'.at_ ≤ p.at_ + 9 := by
  refine Phi_q (by omega) fun k e => ?_
  subst e
  unfold d_l_draw_entry b_l_draw_entry
  dsimp only
  walk_at "ev"
  refine ⟨by omega, by omega, for_rng (fun j st => ∃ (e : Ent) (p' : Pen) (a b : Option D), st = ⟨[.io p'.d, .sh (.int w), .sh (.int n), .sh (.int f), .ow (.lst (e.map oD)), vS a, vS b, .no], []⟩ ∧ e.length = j ∧ (∀ m, some m ∈ e → m < n) ∧ p'.at_ ≤ p.at_ + 2 * j) ⟨[], p, none, none, rfl, rfl, by simp, by omega⟩ ?_ ?_⟩
  · rintro j _ hj ⟨e, p1, a, b, rfl, hl, hm, hp1⟩
    walk_at "ev"
    refine iteP_join (fun r => ∃ (c : Bool) (p2 : Pen), r = (⟨.bl c, false, ⟨[.io p2.d, .sh (.int w), .sh (.int n), .sh (.int f), .ow (.lst (e.map oD)), .sh (.int j), vS b, .no], []⟩⟩ : R) ∧ p2.at_ ≤ p1.at_ + 1) (fun c => ?_) (fun c => ?_) ?_
    · walk_at "ev"
      refine Opt_mono (l_take_ok (by omega) p1 6 (by decide) (by decide) (by omega)) ?_
      rintro _ ⟨x1, p2, rfl, hx1, hp2⟩
      walk_at "ev"
      exact ⟨_, p2, rfl, hp2⟩
    · walk_at "ev"
      refine Opt_mono (l_take_ok (by omega) p1 3 (by decide) (by decide) (by omega)) ?_
      rintro _ ⟨x1, p2, rfl, hx1, hp2⟩
      walk_at "ev"
      exact ⟨_, p2, rfl, hp2⟩
    · rintro _ ⟨c, p2, rfl, hp2⟩
      walk_at "ev"
      refine iteP_split (fun hc => ?_) fun hc => ?_
      · walk_at "ev"
        refine Opt_mono (l_take_ok (by omega) p2 n (by omega) (by omega) (by omega)) ?_
        rintro _ ⟨x1, p3, rfl, hx1, hp3⟩
        walk_at "ev"
        refine ⟨by omega, e ++ [some x1], p3, some _, some _, by rw [List.map_append]; rfl, by simp [hl], fun m h => ?_, by omega⟩
        rcases List.mem_append.mp h with h | h
        · exact hm m h
        · simp only [List.mem_cons, List.not_mem_nil, or_false, Option.some.injEq] at h
          omega
      · walk_at "ev"
        refine ⟨by omega, e ++ [none], p2, some _, some _, by rw [List.map_append]; rfl, by simp [hl], fun m h => ?_, by omega⟩
        rcases List.mem_append.mp h with h | h
        · exact hm m h
        · simp at h
  · rintro _ ⟨e, p1, a, b, rfl, hl, hm, hp1⟩
    have hl : e.length = w := by omega
    walk_at "ev"
    refine lcLp_map keepD rfl (chk_wipeQ rfl rfl rfl) (fun x hx => ?_) fun st he => ?_
    · obtain ⟨o, _, rfl⟩ := List.mem_map.mp hx
      walk_at "ev"
      cases o <;> (walk_at "ev"; first | rfl | exact ⟨rfl, rfl⟩)
    · rw [he, keep_map]
      walk_at "ev"
      refine ⟨?_, rfl, ?_⟩
      · rw [okE_lst', all_map fun o _ => okE_oD 59 o]
      · refine iteP_join (fun q => ∃ (e : Ent) (p' : Pen), q = (Fl.nx, (⟨[.io p'.d, .sh (.int w), .sh (.int n), .sh (.int f), .ow (.lst (e.map oD)), vS a, vS b, .no], []⟩ : Stt)) ∧ EntOk e w n ∧ p'.at_ ≤ p1.at_ + 1) (fun c => ?_) (fun c => ?_) ?_
        · walk_at "ev"
          refine Opt_mono (l_take_ok (by omega) p1 n (by omega) (by omega) (by omega)) ?_
          rintro _ ⟨x1, p3, rfl, hx1, hp3⟩
          walk_at "ev"
          have hlt : f % w < e.length := by rw [hl]; exact Nat.mod_lt _ (by omega)
          refine ⟨by omega, hlt, e.set (f % w) (some x1), p3, by rw [List.map_set]; rfl, ⟨by simp [hl], fun m h => ?_, x1, List.mem_iff_getElem?.mpr ⟨f % w, by simp [hlt]⟩⟩, hp3⟩
          rcases List.mem_or_eq_of_mem_set h with h | h
          · exact hm m h
          · simp only [Option.some.injEq] at h; omega
        · walk_at "ev"
          refine ⟨e, p1, rfl, ⟨hl, hm, ?_⟩, by omega⟩
          cases q : e.filter Option.isSome with
          | nil => rw [q] at c; cases c
          | cons o r =>
            have := List.mem_filter.mp (show o ∈ e.filter Option.isSome by rw [q]; exact List.mem_cons_self ..)
            cases o with
            | none => cases this.2
            | some m => exact ⟨m, this.1⟩
        · rintro _ ⟨e, p3, rfl, he, hp3⟩
          walk_at "ev"
          exact ⟨e, p3, rfl, he, by omega⟩
theorem l_draw_channel_ok [HasD T dfs 4 d_l_draw_alphabet false] [HasD T dfs 5 d_l_draw_entry false] [HasD T dfs 6 d_l_draw_channel false] {k : Nat} (hk : 4 ≤ k) (p : Pen) (a b n : Nat) (ha : 1 ≤ a) (ha2 : a ≤ 4) (hb : 1 ≤ b) (hb2 : b ≤ 4) (hn : 1 ≤ n) (hn2 : n ≤ 4) (hp : p.at_ ≤ 10000000) :
    Opt (Phi T F dfs k 6 [p.d, .int a, .int b, .int n] []) fun r => ∃ (c : Chan) (p' : Pen), r = ⟨c.d, false, [p'.d], []⟩ ∧ c.Ok ∧ c.ins.cps.size ≤ a ∧ c.outs.cps.size ≤ b ∧ c.sts.length ≤ n ∧ p'.at_ ≤ p.at_ + 200 := by
  refine Phi_q (by omega) fun k e => ?_
  subst e
  unfold d_l_draw_channel b_l_draw_channel
  dsimp only
  walk_at "ev"
  refine Opt_mono (l_take_ok (by omega) p a (by omega) (by omega) (by omega)) ?_
  rintro _ ⟨x1, p1, rfl, hx1, hp1⟩
  walk_at "ev"
  rw [show (1 + (x1 : Int)) = ((1 + x1 : Nat) : Int) by omega]
  refine Opt_mono (l_draw_alphabet_ok (by omega) p1 (1 + x1) (by omega) (by omega) (by omega)) ?_
  rintro _ ⟨zi, p2, rfl, hzi, hzi2, hp2⟩
  walk_at "ev"
  refine Opt_mono (l_take_ok (by omega) p2 b (by omega) (by omega) (by omega)) ?_
  rintro _ ⟨x2, p3, rfl, hx2, hp3⟩
  walk_at "ev"
  rw [show (1 + (x2 : Int)) = ((1 + x2 : Nat) : Int) by omega]
  refine Opt_mono (l_draw_alphabet_ok (by omega) p3 (1 + x2) (by omega) (by omega) (by omega)) ?_
  rintro _ ⟨zo, p4, rfl, hzo, hzo2, hp4⟩
  walk_at "ev"
  refine Opt_mono (l_take_ok (by omega) p4 n (by omega) (by omega) (by omega)) ?_
  rintro _ ⟨x3, p5, rfl, hx3, hp5⟩
  walk_at "ev"
  rw [show (1 + (x3 : Int)) = ((1 + x3 : Nat) : Int) by omega]
  have zi1 := hzi.lo
  have zi4 := hzi.hi
  have zo1 := hzo.lo
  have zo4 := hzo.hi
  refine ⟨by omega, by omega, for_rng (fun j st => ∃ (ss : List (List Ent)) (p' : Pen) (u : Option D) (v : Option D), st = ⟨[.io p'.d, .sh (.int a), .sh (.int b), .sh (.int n), .sh (.str zi), .sh (.str zo), vS u, .sh (.int ((1 + x3 : Nat) : Int)), .ow (.lst (ss.map staD)), oS v, .no], []⟩ ∧ ss.length = j ∧ (∀ s ∈ ss, StaOk s zi.cps.size zo.cps.size (1 + x3)) ∧ p'.at_ ≤ p5.at_ + 36 * j) ⟨[], p5, none, none, rfl, rfl, by simp, by omega⟩ ?_ ?_⟩
  · rintro j _ hj ⟨ss, p6, u, v, rfl, hl, hs, hp6⟩
    walk_at "ev"
    refine ⟨by omega, by omega, by omega, lcLp_inv (fun pre ys st => ∃ (es : List Ent) (p' : Pen), ys = es.map entD ∧ st = ⟨[.io p'.d, .sh (.int a), .sh (.int b), .sh (.int n), .sh (.str zi), .sh (.str zo), .sh (.int j), .sh (.int ((1 + x3 : Nat) : Int)), .ow (.lst (ss.map staD)), oS v, .no], []⟩ ∧ es.length = pre.length ∧ (∀ e ∈ es, EntOk e zo.cps.size (1 + x3)) ∧ p'.at_ ≤ p6.at_ + 9 * pre.length) rfl ⟨[], p6, rfl, rfl, rfl, by simp, by simp⟩ (fun _ _ _ _ => rfl) ?_ ?_⟩
    · rintro pre _ post _ _ e ⟨es, p7, rfl, rfl, hel, he, hp7⟩
      obtain ⟨rfl, hk⟩ := rngL_split e
      walk_at "ev"
      refine ⟨by omega, by omega, by omega, ?_⟩
      refine Opt_mono (l_draw_entry_ok (by omega) p7 zo.cps.size (1 + x3) (pre.length % zo.cps.size) (by omega) (by omega) (by omega) (by omega) (by omega)) ?_
      rintro _ ⟨en, p8, rfl, hen, hp8⟩
      walk_at "ev"
      refine ⟨noO_entD 39 en, es ++ [en], p8, by rw [List.map_append]; rfl, rfl, by simp [hel], fun e h => ?_, by simp only [List.length_append, List.length_cons, List.length_nil]; omega⟩
      rcases List.mem_append.mp h with h | h
      · exact he e h
      · simp only [List.mem_cons, List.not_mem_nil, or_false] at h
        rw [h]; exact hen
    · rintro _ e ⟨es, p7, rfl, hst, hel, he, hp7⟩
      rw [rngL_ln] at hel hp7
      rw [hst]
      walk_at "ev"
      refine ⟨by omega, ss ++ [es], p7, some _, some _, by rw [List.map_append]; rfl, by simp [hl], fun s h => ?_, by omega⟩
      rcases List.mem_append.mp h with h | h
      · exact hs s h
      · simp only [List.mem_cons, List.not_mem_nil, or_false] at h
        rw [h]; exact ⟨by omega, he⟩
  · rintro _ ⟨ss, p6, u, v, rfl, hl, hs, hp6⟩
    have hl : ss.length = 1 + x3 := by omega
    walk_at "ev"
    refine ⟨⟨zi, zo, ss⟩, p6, rfl, ⟨hzi, hzo, by show 1 ≤ ss.length; omega, by show ss.length ≤ 4; omega, fun s h => by show StaOk s zi.cps.size zo.cps.size ss.length; rw [hl]; exact hs s h⟩, by show zi.cps.size ≤ a; omega, by show zo.cps.size ≤ b; omega, by show ss.length ≤ n; omega, by omega⟩
end
end Py
/-! Channels with lies; any channel. -/
namespace Py
open PySem PySem.Spec PyProof.Rows L2
local macro_rules | `(tactic| walk_at "ev") => `(tactic| simp -implicitDefEqProofs -dsimp only [nrm_some, ↓kP_mk, ↓kT_mk, ↓kR_mk, ↓kRet_mk, ↓Opt_some, Opt_some, Opt_none, ↓E_loc, ↓E_cst, ↓E_tup, ↓E_lst, ↓E_bin, ↓E_cmp, ↓E_idx, ↓E_chn, ↓E_not, ↓E_and, ↓E_or, ↓E_ite, ↓E_neg, ↓E_callC, ↓E_callO, ↓E_slc, ↓E_rev, ↓E_dnew, ↓E_isi, ↓E_mth, ↓E_mut, ↓E_lc, ↓E_sset, ↓E_lrg, ↓E_trg, ↓E_prm', il_cst, in_cst, il_fld, in_fld, il_nop, il_tup, in_tup, il_lst, in_lst, il_dic, in_dic, il_bin, in_bin, il_neg, in_neg, il_not, in_not, il_cmp, in_cmp, il_chn, in_chn, il_and, in_and, il_or, in_or, il_ite, in_ite, il_call, in_call, il_ocall, in_ocall, il_make, in_make, il_prm, in_prm, il_isi, in_isi, il_idx, in_idx, il_slc, in_slc, il_rev, in_rev, il_mth, in_mth, il_mut, in_mut, il_lc, in_lc, in_loc, ns_len, ns_sum, ns_min, ns_max, ns_min2, ns_max2, ns_sorted, ns_all, ns_any, ns_list, ns_tuple, ns_dict, ns_int, ns_abs, ns_repr, ns_lset, ↓pt_nop, ↓pt_e', ↓arg_loc, ↓arg_ne, ↓A2_q, ↓L_nil, ↓L_cons, ↓Ar_nil, ↓Ar_cons, ↓CA_nil, ↓CA_cons, ↓ca_val, ↓ca_keep, ↓ca_lend, ↓I_nil, ↓I_one, ↓src_val, ↓src_rng1, ↓src_rng2, ↓src_enm, ↓src_zip, ↓src_zips, ↓S_asg, ↓S_asgT, ↓S_par, ↓P_nil, ↓P_cons, ↓S_seti, ↓S_augi, ↓S_aug, ↓S_exp, ↓S_ite, ↓S_for, ↓S_retL, ↓S_ret, ↓S_retN, ↓S_brk, ↓S_cnt, ↓S_pas, ↓Ss_nil, ↓Ss_one, ↓Ss_cons, ↓locK_sh, ↓locK_ow, ↓blK_bl, ↓intK_int, ↓argK_sh, ↓argK_ow, ↓argK_io, ↓keepK_val, ↓keepK_pl, ↓lendK_val, ↓lendK_pl, ↓srcK_val, ↓srcK_pl, ↓shK_sh, ↓retK_ow, ↓retK_sh, ↓seqK_nx, ↓seqK_bk, ↓seqK_ct, ↓seqK_rt, ↓endK_rt, ↓endK_nx, ↓turnK_nx, ↓turnK_ct, ↓turnK_bk, ↓turnK_rt, set_mk, at_mk, getD0, getDs, dat_sh, dat_ow, dat_io, own_sh, own_ow, own_io, own_no, upd_ow, upd_io, avdat_val, avdat_pl, vS_s, vS_n, oS_s, oS_n, putOk_vS, putOk_oS, slen, putOk_no, putOk_sh, putOk_ow, okE_int, okE_bl, okE_non, eq_int, eq_bl, Int.zero_add, frS_t, frS_f, ↓putO_eq, ↓asg_nm, asg_tup, asg_lst, putL_nil, ↓putL_cons, putF_nil, ↓putF_cons, wipeT_mk, wipe_nil, wipe_cons, back_nil, back_cons, shO_vS, shO_sh, shO_no, shO_ow, dats_nil, ↓dats_cons, io_nil, io_skip, io_new, ioK_ow, ioK_io, io_pl, outs_nil, ↓outs_t, outs_f, par_t, par_f, par_nil, b_add, b_sub, b_addT, b_addS, b_addL, b_mul, b_mod, b_div, b_pow, b_mulL, b_mulT, r_lst, r_tup, r_str, p_lenS, p_lstS, i_str, l_str, m_ins, m_app, m_ext, x_str, g_add, c_lt, c_le, c_gt, c_ge, c_ltS, c_leS, c_isB, c_isntB, c_is, c_isnt, isNon_oD, isNone_s, isNone_n, isNon_non, isNon_int, isNon_bl, isNon_str, isNon_tup, isNon_lst, noO_oD, okE_oD, c_eq, c_ne, c_in, c_notin, x_lst, x_tup, p_lenL, p_lenT, p_tupL, p_tupT, p_lstL, p_lstT, p_lstF, k_lst, k_str, k_tup, i_lst, i_tup, l_fz, l_lst, l_tup, t_nil, ↓t_cons, tyOf, at_nat, at_lit, ↓fn_q, ↓Opt_iteN, Opt_iteN, Opt_map, List.replicate, List.cons_append, List.nil_append, List.getElem?_cons_zero, List.getElem?_cons_succ, List.set_cons_zero, List.set_cons_succ, ↓iteP_t, ↓iteP_f, iteP_t, iteP_f, ↓reduceIte, Bool.false_eq_true, true_and, and_true, Bool.not_true, Bool.not_false, Bool.and_false, Bool.and_true, Bool.true_and, Bool.false_and, decide_true, decide_false, decide_eq_true_eq, List.any_cons, List.any_nil, Bool.or_false, Bool.or_true, Bool.true_or, Bool.false_or, id, avPls, frN, List.length_cons, List.length_nil, Nat.reduceAdd, Nat.reduceLeDiff, Nat.reduceLT, Int.reduceLE, Int.reduceLT, Int.reduceNeg, Int.reducePow, Int.reduceAdd, Int.reduceMul, Int.reduceSub, Nat.reducePow, Int.reduceToNat, nabs_lit, Int.natAbs_natCast, Int.reduceNe, Int.reduceEq, Nat.reduceMul, Nat.reduceSub, ne_eq, not_false_eq_true, not_true_eq_false, reduceCtorEq, and_self, Nat.reduceEqDiff, set_nat, set_lit, noO_pen, lim_eq, fmodN, fdivN, List.length_map, List.map_set, eq_lst_nil, chars_eq, noO_ch, eq_ch, keep_bl, keep_int, keep_non, keep_str, Bool.and_eq_true, and_assoc, p_intB, p_intI, noO_int, noO_bl, noO_non, noO_str, List.all_cons, List.all_nil, List.nodup_nil, List.nodup_cons, List.mem_cons, List.not_mem_nil, Pl.loc.injEq, or_false, false_or, or_true, true_or, Nat.le_refl, Nat.zero_le, Int.cast_ofNat_Int])
def lyE (z : Str) (e u s : Nat) : Ent := z.cps.toList.map fun r => if s = r then some u else if u < e then some (u + 1) else none
def lyS (z : Str) (e u : Nat) : List Ent := z.cps.toList.map (lyE z e u)
def lyC (z : Str) (e : Nat) : Chan := ⟨z, z, (List.range (e + 1)).map (lyS z e)⟩
theorem Alpha.lt {z : Str} (h : Alpha z) {c : Nat} (hc : c ∈ z.cps.toList) : c < 1114112 := by
  have := (h.sg c hc).2
  omega
theorem lyC_ok {z : Str} {e : Nat} (h : Alpha z) (he : e ≤ 3) : (lyC z e).Ok := by
  refine ⟨h, h, by simp [lyC], by simp [lyC]; omega, fun s hs => ?_⟩
  obtain ⟨u, hu, rfl⟩ := List.mem_map.mp hs
  rw [List.mem_range] at hu
  refine ⟨by simp [lyS, lyC], fun en hen => ?_⟩
  obtain ⟨c, hc, rfl⟩ := List.mem_map.mp hen
  refine ⟨by simp [lyE, lyC], fun m hm => ?_, u, ?_⟩
  · obtain ⟨r, hr, hm⟩ := List.mem_map.mp hm
    show m < ((List.range (e + 1)).map (lyS z e)).length
    rw [List.length_map, List.length_range]
    split at hm
    · cases hm; exact hu
    · split at hm
      · cases hm; omega
      · cases hm
  · exact List.mem_map.mpr ⟨c, hc, if_pos rfl⟩
section
variable {T : Tab} {F : Nat} {dfs : Nat → Option Dfn}
theorem l_lying_ok [HasD T dfs 7 d_l_lying false] {k : Nat} (hk : 1 ≤ k) (z : Str) (e : Nat) (hz : Alpha z) (he : e ≤ 3) :
    Opt (Phi T F dfs k 7 [.str z, .int e] []) fun r => r = ⟨(lyC z e).d, false, [], []⟩ := by
  refine Phi_q (by omega) fun k e => ?_
  subst e
  unfold d_l_lying b_l_lying
  dsimp only
  have z4 := hz.hi
  walk_at "ev"
  rw [show ((e : Int) + 1) = ((e + 1 : Nat) : Int) by omega]
  refine ⟨by omega, by omega, for_rng (fun j st => ∃ (a b c : Option D) (v : Option D), st = ⟨[.sh (.str z), .sh (.int e), .ow (.lst ((List.range j).map fun u => staD (lyS z e u))), vS a, oS v, vS b, vS c, .no], []⟩) ⟨none, none, none, none, rfl⟩ ?_ ?_⟩
  · rintro j _ hj ⟨a, b, c, v, rfl⟩
    walk_at "ev"
    refine ⟨by omega, for_map (fun p st => ∃ (b c : Option D), st = ⟨[.sh (.str z), .sh (.int e), .ow (.lst ((List.range j).map fun u => staD (lyS z e u))), .sh (.int j), .ow (.lst (p.map fun s => entD (lyE z e j s))), vS b, vS c, .no], []⟩) ⟨b, c, rfl⟩ (fun _ _ _ _ _ => rfl) ?_ ?_⟩
    · rintro p s q _ ez ⟨b, c, rfl⟩
      have hs := hz.lt (show s ∈ z.cps.toList by rw [ez]; simp)
      have hpl : p.length < 4 := by
        have := congrArg List.length ez
        simp only [List.length_append, List.length_cons, Array.length_toList] at this
        omega
      walk_at "ev"
      refine iteP_join (fun r => r = (⟨oD (if j < e then some (j + 1) else none), false, ⟨[.sh (.str z), .sh (.int e), .ow (.lst ((List.range j).map fun u => staD (lyS z e u))), .sh (.int j), .ow (.lst (p.map fun s => entD (lyE z e j s))), .sh (chD s), vS c, .no], []⟩⟩ : R)) (fun hc => ?_) (fun hc => ?_) ?_
      · have hc := of_decide_eq_true hc
        rw [if_pos (by omega)]
        walk_at "ev"
        rfl
      · have hc := of_decide_eq_false hc
        rw [if_neg (by omega)]
        walk_at "ev"
        rfl
      · rintro _ rfl
        walk_at "ev"
        refine ⟨by omega, lcLp_funM (fun r => oD (if s = r then some j else if j < e then some (j + 1) else none)) rfl (fun _ _ => rfl) (fun r hr => ?_) fun st h => ?_⟩
        · have hr := hz.lt hr
          walk_at "ev"
          rw [okE_ch hs, okE_ch hr]
          refine ⟨rfl, rfl, iteP_split (fun hc => ?_) fun hc => ?_⟩
          · rw [if_pos (of_decide_eq_true hc)]
            walk_at "ev"
            try (first | rfl | exact ⟨rfl, rfl⟩)
          · rw [if_neg (of_decide_eq_false hc)]
            walk_at "ev"
            try (first | rfl | exact ⟨rfl, rfl⟩)
        · rw [h]
          walk_at "ev"
          refine ⟨by omega, some (chD s), some (oD (if j < e then some (j + 1) else none)), ?_⟩
          rw [List.map_append, List.map_cons, List.map_nil]
          have : entD (lyE z e j s) = .tup (z.cps.toList.map fun r => oD (if s = r then some j else if j < e then some (j + 1) else none)) := by
            unfold entD lyE
            rw [List.map_map]; rfl
          rw [this]; rfl
    · rintro _ ⟨b, c, rfl⟩
      walk_at "ev"
      refine ⟨by simp; omega, some (.int j), b, c, some (.lst (z.cps.toList.map fun s => entD (lyE z e j s))), ?_⟩
      rw [List.range_succ, List.map_append, List.map_cons, List.map_nil]
      have : staD (lyS z e j) = .tup (z.cps.toList.map fun s => entD (lyE z e j s)) := by
        unfold staD lyS
        rw [List.map_map]; rfl
      rw [this]; rfl
  · rintro _ ⟨a, b, c, v, rfl⟩
    walk_at "ev"
    unfold Chan.d lyC
    rw [show (((e + 1 : Nat) : Int) - 0).toNat = e + 1 by omega, List.map_map]
    rfl
theorem l_any_channel_ok [HasD T dfs 1 d_l_spread false] [HasD T dfs 2 d_l_take false] [HasD T dfs 4 d_l_draw_alphabet false] [HasD T dfs 5 d_l_draw_entry false] [HasD T dfs 6 d_l_draw_channel false] [HasD T dfs 7 d_l_lying false] [HasD T dfs 8 d_l_any_channel false] {k : Nat} (hk : 5 ≤ k) (p : Pen) (a b n : Nat) (ha : 1 ≤ a) (ha2 : a ≤ 4) (hb : 1 ≤ b) (hb2 : b ≤ 4) (hn : 1 ≤ n) (hn2 : n ≤ 4) (hp : p.at_ ≤ 1000000) :
    Opt (Phi T F dfs k 8 [p.d, .int a, .int b, .int n] []) fun r => ∃ (c : Chan) (p' : Pen), r = ⟨c.d, false, [p'.d], []⟩ ∧ c.Ok ∧ c.sts.length ≤ n ∧ p'.at_ ≤ p.at_ + 201 ∧ ((c.ins.cps.size ≤ a ∧ c.outs.cps.size ≤ b) ∨ ∃ z e, c = lyC z e ∧ Alpha z ∧ e ≤ 3) := by
  refine Phi_q (by omega) fun k e => ?_
  subst e
  unfold d_l_any_channel b_l_any_channel
  dsimp only
  walk_at "ev"
  refine Opt_mono (l_take_ok (by omega) p 4 (by omega) (by omega) (by omega)) ?_
  rintro _ ⟨x1, p1, rfl, hx1, hp1⟩
  walk_at "ev"
  refine iteP_split (fun hc => ?_) fun hc => ?_
  · walk_at "ev"
    refine Opt_mono (l_take_ok (by omega) p1 2 (by omega) (by omega) (by omega)) ?_
    rintro _ ⟨x2, p2, rfl, hx2, hp2⟩
    walk_at "ev"
    rw [show (2 + (x2 : Int)) = ((2 + x2 : Nat) : Int) by omega]
    refine Opt_mono (l_draw_alphabet_ok (by omega) p2 (2 + x2) (by omega) (by omega) (by omega)) ?_
    rintro _ ⟨z, p3, rfl, hz, hz2, hp3⟩
    walk_at "ev"
    refine Opt_mono (l_take_ok (by omega) p3 n (by omega) (by omega) (by omega)) ?_
    rintro _ ⟨x4, p4, rfl, hx4, hp4⟩
    walk_at "ev"
    refine Opt_mono (l_lying_ok (by omega) z x4 hz (by omega)) ?_
    rintro _ rfl
    walk_at "ev"
    exact ⟨noO_chan _, lyC z x4, p4, rfl, lyC_ok hz (by omega), by simp [lyC]; omega, by omega, .inr ⟨z, x4, rfl, hz, by omega⟩⟩
  · walk_at "ev"
    refine Opt_mono (l_draw_channel_ok (by omega) p1 a b n ha ha2 hb hb2 hn hn2 (by omega)) ?_
    rintro _ ⟨c, p2, rfl, hc, h1, h2, h3, hp2⟩
    walk_at "ev"
    exact ⟨noO_chan _, c, p2, rfl, hc, h3, by omega, .inl ⟨h1, h2⟩⟩
end
end Py
/-! The channel's own defs. -/
namespace Py
open PySem PySem.Spec PyProof.Rows L2
local macro_rules | `(tactic| walk_at "ev") => `(tactic| simp -implicitDefEqProofs -dsimp only [nrm_some, ↓kP_mk, ↓kT_mk, ↓kR_mk, ↓kRet_mk, ↓Opt_some, Opt_some, Opt_none, ↓E_loc, ↓E_cst, ↓E_tup, ↓E_lst, ↓E_bin, ↓E_cmp, ↓E_idx, ↓E_chn, ↓E_not, ↓E_and, ↓E_or, ↓E_ite, ↓E_neg, ↓E_callC, ↓E_callO, ↓E_slc, ↓E_rev, ↓E_dnew, ↓E_isi, ↓E_mth, ↓E_mut, ↓E_lc, ↓E_sset, ↓E_lrg, ↓E_trg, ↓E_prm', il_cst, in_cst, il_fld, in_fld, il_nop, il_tup, in_tup, il_lst, in_lst, il_dic, in_dic, il_bin, in_bin, il_neg, in_neg, il_not, in_not, il_cmp, in_cmp, il_chn, in_chn, il_and, in_and, il_or, in_or, il_ite, in_ite, il_call, in_call, il_ocall, in_ocall, il_make, in_make, il_prm, in_prm, il_isi, in_isi, il_idx, in_idx, il_slc, in_slc, il_rev, in_rev, il_mth, in_mth, il_mut, in_mut, il_lc, in_lc, in_loc, ns_len, ns_sum, ns_min, ns_max, ns_min2, ns_max2, ns_sorted, ns_all, ns_any, ns_list, ns_tuple, ns_dict, ns_int, ns_abs, ns_repr, ns_lset, ↓pt_nop, ↓pt_e', ↓arg_loc, ↓arg_ne, ↓A2_q, ↓L_nil, ↓L_cons, ↓Ar_nil, ↓Ar_cons, ↓CA_nil, ↓CA_cons, ↓ca_val, ↓ca_keep, ↓ca_lend, ↓I_nil, ↓I_one, ↓src_val, ↓src_rng1, ↓src_rng2, ↓src_enm, ↓src_zip, ↓src_zips, ↓S_asg, ↓S_asgT, ↓S_par, ↓P_nil, ↓P_cons, ↓S_seti, ↓S_augi, ↓S_aug, ↓S_exp, ↓S_ite, ↓S_for, ↓S_retL, ↓S_ret, ↓S_retN, ↓S_brk, ↓S_cnt, ↓S_pas, ↓Ss_nil, ↓Ss_one, ↓Ss_cons, ↓locK_sh, ↓locK_ow, ↓blK_bl, ↓intK_int, ↓argK_sh, ↓argK_ow, ↓argK_io, ↓keepK_val, ↓keepK_pl, ↓lendK_val, ↓lendK_pl, ↓srcK_val, ↓srcK_pl, ↓shK_sh, ↓retK_ow, ↓retK_sh, ↓seqK_nx, ↓seqK_bk, ↓seqK_ct, ↓seqK_rt, ↓endK_rt, ↓endK_nx, ↓turnK_nx, ↓turnK_ct, ↓turnK_bk, ↓turnK_rt, set_mk, at_mk, getD0, getDs, dat_sh, dat_ow, dat_io, own_sh, own_ow, own_io, own_no, upd_ow, upd_io, avdat_val, avdat_pl, vS_s, vS_n, oS_s, oS_n, putOk_vS, putOk_oS, slen, putOk_no, putOk_sh, putOk_ow, okE_int, okE_bl, okE_non, eq_int, eq_bl, Int.zero_add, frS_t, frS_f, ↓putO_eq, ↓asg_nm, asg_tup, asg_lst, putL_nil, ↓putL_cons, putF_nil, ↓putF_cons, wipeT_mk, wipe_nil, wipe_cons, back_nil, back_cons, shO_vS, shO_sh, shO_no, shO_ow, dats_nil, ↓dats_cons, io_nil, io_skip, io_new, ioK_ow, ioK_io, io_pl, outs_nil, ↓outs_t, outs_f, par_t, par_f, par_nil, b_add, b_sub, b_addT, b_addS, b_addL, b_mul, b_mod, b_div, b_pow, b_mulL, b_mulT, r_lst, r_tup, r_str, p_lenS, p_lstS, i_str, l_str, m_ins, m_app, m_ext, x_str, g_add, c_lt, c_le, c_gt, c_ge, c_ltS, c_leS, c_isB, c_isntB, c_is, c_isnt, isNon_oD, isNone_s, isNone_n, isNon_non, isNon_int, isNon_bl, isNon_str, isNon_tup, isNon_lst, noO_oD, okE_oD, c_eq, c_ne, c_in, c_notin, x_lst, x_tup, p_lenL, p_lenT, p_tupL, p_tupT, p_lstL, p_lstT, p_lstF, k_lst, k_str, k_tup, i_lst, i_tup, l_fz, l_lst, l_tup, t_nil, ↓t_cons, tyOf, at_nat, at_lit, ↓fn_q, ↓Opt_iteN, Opt_iteN, Opt_map, List.replicate, List.cons_append, List.nil_append, List.getElem?_cons_zero, List.getElem?_cons_succ, List.set_cons_zero, List.set_cons_succ, ↓iteP_t, ↓iteP_f, iteP_t, iteP_f, ↓reduceIte, Bool.false_eq_true, true_and, and_true, Bool.not_true, Bool.not_false, Bool.and_false, Bool.and_true, Bool.true_and, Bool.false_and, decide_true, decide_false, decide_eq_true_eq, List.any_cons, List.any_nil, Bool.or_false, Bool.or_true, Bool.true_or, Bool.false_or, id, avPls, frN, List.length_cons, List.length_nil, Nat.reduceAdd, Nat.reduceLeDiff, Nat.reduceLT, Int.reduceLE, Int.reduceLT, Int.reduceNeg, Int.reducePow, Int.reduceAdd, Int.reduceMul, Int.reduceSub, Nat.reducePow, Int.reduceToNat, nabs_lit, Int.natAbs_natCast, Int.reduceNe, Int.reduceEq, Nat.reduceMul, Nat.reduceSub, ne_eq, not_false_eq_true, not_true_eq_false, reduceCtorEq, and_self, Nat.reduceEqDiff, set_nat, set_lit, noO_pen, lim_eq, fmodN, fdivN, List.length_map, List.map_set, eq_lst_nil, chars_eq, noO_ch, eq_ch, keep_bl, keep_int, keep_non, keep_str, Bool.and_eq_true, and_assoc, p_intB, p_intI, noO_int, noO_bl, noO_non, noO_str, List.all_cons, List.all_nil, List.nodup_nil, List.nodup_cons, List.mem_cons, List.not_mem_nil, Pl.loc.injEq, or_false, false_or, or_true, true_or, Nat.le_refl, Nat.zero_le, Int.cast_ofNat_Int])
theorem Alpha.nd {z : Str} (h : Alpha z) : z.cps.toList.Nodup := h.up.imp fun {a b} h => Nat.ne_of_lt h
theorem idx_ch {z : Str} (h : Alpha z) {i c : Nat} (hi : z.cps.toList[i]? = some c) : mthF .index (.str z) [chD c] = some (.int (i : Nat), false) := by
  show (match Builtin.Str.occurrences z (one c) 0 z.length 1 with | i :: _ => some (D.int (i : Nat), false) | [] => none) = _
  have at_iff : ∀ k, StrLaws.At z (one c) z.length k ↔ z.cps.toList[k]? = some c := fun k => StrLaws.subAt_one z c k
  rcases StrLaws.occ_head z (one c) 1 (Nat.le_refl _) with ⟨_, hn⟩ | ⟨k, r, e, hk, _⟩
  · exact absurd ((at_iff i).mpr hi) (hn i)
  · rw [e]
    have hk := (at_iff k).mp hk
    have : k = i := by
      obtain ⟨h1, e1⟩ := List.getElem?_eq_some_iff.mp hk
      obtain ⟨h2, e2⟩ := List.getElem?_eq_some_iff.mp hi
      have up := List.pairwise_iff_getElem.mp h.up
      rcases Nat.lt_trichotomy k i with q | q | q
      · have := up k i h1 h2 q; omega
      · exact q
      · have := up i k h2 h1 q; omega
    rw [this]
theorem okE_str {z : Str} (h : SgnOk z) (n : Nat) : okE n (.str z) = true := by
  have := strOk_iff.mpr h
  cases n <;> exact this
theorem Alpha.sgn {z : Str} (h : Alpha z) : SgnOk z := fun _ hc => h.lt hc
theorem okE_entD (n : Nat) (e : Ent) : okE (n + 1) (entD e) = true := by
  unfold entD
  rw [okE_tup']
  exact all_map fun o _ => okE_oD n o
theorem okE_staD (n : Nat) (e : List Ent) : okE (n + 2) (staD e) = true := by
  unfold staD
  rw [okE_tup']
  exact all_map fun o _ => okE_entD n o
theorem okE_chan {c : Chan} (h : c.Ok) (n : Nat) : okE (n + 4) c.d = true := by
  unfold Chan.d
  rw [okE_tup', List.all_cons, List.all_cons, List.all_cons, okE_str h.ai.sgn, okE_str h.ao.sgn, okE_tup', all_map fun o _ => okE_staD n o]; rfl
theorem wts_map {α : Type} {f : α → D} {B : Nat} : ∀ {l : List α}, (∀ a ∈ l, wt (f a) ≤ B) → wts (l.map f) ≤ l.length * (B + 2)
  | [], _ => Nat.zero_le _
  | a :: l, h => by
    have h1 := h a (List.mem_cons_self ..)
    have h2 := wts_map (l := l) fun b hb => h b (List.mem_cons_of_mem _ hb)
    show wt (f a) + 2 + wts (l.map f) ≤ (l.length + 1) * (B + 2)
    rw [Nat.succ_mul]; omega
theorem wt_oD {o : Option Nat} (h : ∀ m, o = some m → m < 4) : wt (oD o) ≤ 5 := by
  cases o with
  | none => decide
  | some m =>
    have := h m rfl
    have : m = 0 ∨ m = 1 ∨ m = 2 ∨ m = 3 := by omega
    rcases this with rfl | rfl | rfl | rfl <;> decide
theorem wt_chan {c : Chan} (h : c.Ok) : wt c.d ≤ 900 := by
  have h1 := h.ai.hi
  have h2 := h.ao.hi
  have h3 := h.hi
  have he : ∀ s ∈ c.sts, ∀ e ∈ s, wt (entD e) ≤ 31 := by
    intro s hs e he
    have ok := (h.ok s hs).ok e he
    have := wts_map (f := oD) (B := 5) (l := e) fun o ho => wt_oD fun m hm => by subst hm; have := ok.lt m ho; omega
    have hl := ok.len
    show wts (e.map oD) + 3 ≤ 31
    have : e.length * (5 + 2) ≤ 4 * 7 := Nat.mul_le_mul_right 7 (by omega)
    omega
  have hs : ∀ s ∈ c.sts, wt (staD s) ≤ 135 := by
    intro s hs
    have := wts_map (f := entD) (B := 31) (l := s) (he s hs)
    have hl := (h.ok s hs).len
    show wts (s.map entD) + 3 ≤ 135
    have : s.length * (31 + 2) ≤ 4 * 33 := Nat.mul_le_mul_right 33 (by omega)
    omega
  have := wts_map (f := staD) (B := 135) (l := c.sts) hs
  show (10 * c.ins.cps.size + 2) + 2 + ((10 * c.outs.cps.size + 2) + 2 + ((wts (c.sts.map staD) + 3) + 2 + 0)) + 3 ≤ 900
  have : c.sts.length * (135 + 2) ≤ 4 * 137 := Nat.mul_le_mul_right 137 (by omega)
  omega
theorem repr_chan {c : Chan} (h : c.Ok) : primX .repr [c.d] = some (.str (reprD c.d), false) := repr_tup (okE_chan h 56) (shw_wt _ (by have := wt_chan h; exact Nat.lt_of_le_of_lt this (by decide))) (Nat.le_trans (wt_chan h) (by decide))
mutual
theorem okE_noO : ∀ (n m : Nat) (d : D), n ≤ m → okE n d = true → noO m d = true
  | _, m, .non, _, _ => noO_non m
  | _, m, .bl _, _, _ => noO_bl m _
  | _, m, .int _, _, _ => noO_int m _
  | _, m, .str _, _, _ => noO_str m _
  | n + 1, m + 1, .tup xs, hm, h => okE_noOs n m xs (by omega) h
  | n + 1, m + 1, .lst xs, hm, h => okE_noOs n m xs (by omega) h
  | n + 1, 0, .tup xs, hm, h => by omega
  | n + 1, 0, .lst xs, hm, h => by omega
  | 0, _, .tup _, _, h => by cases h
  | 0, _, .lst _, _, h => by cases h
  | n, _, .dic _, _, h => by cases n <;> cases h
  | n, _, .obj _, _, h => by cases n <;> cases h
  | n, _, .fz _, _, h => by cases n <;> cases h
theorem okE_noOs : ∀ (n m : Nat) (xs : List D), n ≤ m → xs.all (okE n) = true → xs.all (noO m) = true
  | _, _, [], _, _ => rfl
  | n, m, x :: xs, hm, h => by
    rw [List.all_cons, Bool.and_eq_true] at h
    rw [List.all_cons, okE_noO n m x hm h.1, okE_noOs n m xs hm h.2]; rfl
end
theorem pairs_self (xs : List D) : pairsL xs xs = xs.map fun x => .tup [x, x] := by
  unfold pairsL
  induction xs with
  | nil => rfl
  | cons x xs ih => simp [ih]
theorem inD_trues {α : Type} (l : List α) : inD (.bl false) (l.map fun _ => .bl true) = false := by
  unfold inD
  induction l with
  | nil => rfl
  | cons x xs ih => rw [List.map_cons, List.any_cons, ih]; rfl
section
variable {T : Tab} {F : Nat} {dfs : Nat → Option Dfn}
theorem l_same_leaf [HasD T dfs 3 d_l_same true] {k : Nat} (hk : 1 ≤ k) (d : D) (n : Nat) (h : okE n d = true) (hd : match d with | .tup _ => False | .lst _ => False | _ => True) :
    Opt (Phi T F dfs k 3 [d, d] []) fun r => r = ⟨.bl true, false, [], []⟩ := by
  refine Phi_q (by omega) fun k e => ?_
  subst e
  unfold d_l_same b_l_same
  dsimp only
  cases d with
  | non => walk_at "ev"
  | bl b => walk_at "ev"
  | int b => walk_at "ev"
  | str b =>
    walk_at "ev"
    have h60 : okE 60 (.str b) = true := by cases n <;> exact h
    rw [h60, eqD_refl _ _ h60]
    exact ⟨rfl, rfl⟩
  | tup xs => exact hd.elim
  | lst xs => exact hd.elim
  | dic _ => cases n <;> cases h
  | obj _ => cases n <;> cases h
  | fz _ => cases n <;> cases h
theorem l_same_ok [HasD T dfs 3 d_l_same true] : ∀ (n : Nat) {k : Nat} (hk : n + 1 ≤ k) (hn : n ≤ 30) (d : D) (h : okE n d = true),
    Opt (Phi T F dfs k 3 [d, d] []) fun r => r = ⟨.bl true, false, [], []⟩ := by
  intro n
  induction n with
  | zero =>
    intro k hk hn d h
    exact l_same_leaf (by omega) d 0 h (by cases d <;> first | trivial | cases h)
  | succ n ih =>
    intro k hk hn d h
    have seq : ∀ xs : List D, xs.all (okE n) = true → ∀ j, n + 1 ≤ j → ∀ (K : List D → Stt → Prop) (e0 : Stt), wipeT [2, 3] e0 = e0 → (∀ x ∈ xs, Opt (asgTg e0 (.tup [x, x]) (.tp [2, 3])) fun e1 => Opt (evE T (Phi T F dfs j) (.call 3 [.loc 2, .loc 3]) e1) (kR fun d fr e3 => d = .bl true ∧ wipeT [2, 3] e3 = e0)) →
        (∀ e, wipeT [2, 3] e = e0 → K (xs.map fun _ => .bl true) e) → Opt (lcLp (fun x en => asgTg (wipeT [2, 3] en) x (.tp [2, 3])) (fun en => evIfs T (Phi T F dfs j) [] en) (fun en => evE T (Phi T F dfs j) (.call 3 [.loc 2, .loc 3]) en) none (pairsL xs xs) e0) (kP K) := by
      intro xs hx j hj K e0 hw hs hQ
      rw [pairs_self]
      exact lcLp_funM (h := fun x => .tup [x, x]) (l := xs) (fun _ => .bl true) hw (fun _ _ => rfl) hs hQ
    cases d with
    | tup xs =>
      refine Phi_q (by omega) fun k e => ?_
      subst e
      unfold d_l_same b_l_same
      dsimp only
      walk_at "ev"
      rw [okE_tup'] at h
      refine seq xs h k (by omega) _ _ rfl (fun x hx => ?_) fun st hst => ?_
      · have hx' := List.all_eq_true.mp h x hx
        walk_at "ev"
        refine ⟨okE_noO n 40 x (by omega) hx', Opt_mono (ih (by omega) (by omega) x hx') ?_⟩
        rintro _ rfl
        walk_at "ev"
      · rw [hst]
        walk_at "ev"
        rw [inD_trues, okE_lst', all_map fun o _ => okE_bl 59 true]
        exact ⟨rfl, rfl⟩
    | lst xs =>
      refine Phi_q (by omega) fun k e => ?_
      subst e
      unfold d_l_same b_l_same
      dsimp only
      walk_at "ev"
      rw [okE_lst'] at h
      refine seq xs h k (by omega) _ _ rfl (fun x hx => ?_) fun st hst => ?_
      · have hx' := List.all_eq_true.mp h x hx
        walk_at "ev"
        refine ⟨okE_noO n 40 x (by omega) hx', Opt_mono (ih (by omega) (by omega) x hx') ?_⟩
        rintro _ rfl
        walk_at "ev"
      · rw [hst]
        walk_at "ev"
        rw [inD_trues, okE_lst', all_map fun o _ => okE_bl 59 true]
        exact ⟨rfl, rfl⟩
    | non => exact l_same_leaf (by omega) _ (n + 1) h trivial
    | bl b => exact l_same_leaf (by omega) _ (n + 1) h trivial
    | int b => exact l_same_leaf (by omega) _ (n + 1) h trivial
    | str b => exact l_same_leaf (by omega) _ (n + 1) h trivial
    | dic _ => cases h
    | obj _ => cases h
    | fz _ => cases h
end
end Py
/-! The channel's own defs. -/
namespace Py
open PySem PySem.Spec PyProof.Rows L2
local macro_rules | `(tactic| walk_at "ev") => `(tactic| simp -implicitDefEqProofs -dsimp only [nrm_some, ↓kP_mk, ↓kT_mk, ↓kR_mk, ↓kRet_mk, ↓Opt_some, Opt_some, Opt_none, ↓E_loc, ↓E_cst, ↓E_tup, ↓E_lst, ↓E_bin, ↓E_cmp, ↓E_idx, ↓E_chn, ↓E_not, ↓E_and, ↓E_or, ↓E_ite, ↓E_neg, ↓E_callC, ↓E_callO, ↓E_slc, ↓E_rev, ↓E_dnew, ↓E_isi, ↓E_mth, ↓E_mut, ↓E_lc, ↓E_sset, ↓E_lrg, ↓E_trg, ↓E_prm', il_cst, in_cst, il_fld, in_fld, il_nop, il_tup, in_tup, il_lst, in_lst, il_dic, in_dic, il_bin, in_bin, il_neg, in_neg, il_not, in_not, il_cmp, in_cmp, il_chn, in_chn, il_and, in_and, il_or, in_or, il_ite, in_ite, il_call, in_call, il_ocall, in_ocall, il_make, in_make, il_prm, in_prm, il_isi, in_isi, il_idx, in_idx, il_slc, in_slc, il_rev, in_rev, il_mth, in_mth, il_mut, in_mut, il_lc, in_lc, in_loc, ns_len, ns_sum, ns_min, ns_max, ns_min2, ns_max2, ns_sorted, ns_all, ns_any, ns_list, ns_tuple, ns_dict, ns_int, ns_abs, ns_repr, ns_lset, ↓pt_nop, ↓pt_e', ↓arg_loc, ↓arg_ne, ↓A2_q, ↓L_nil, ↓L_cons, ↓Ar_nil, ↓Ar_cons, ↓CA_nil, ↓CA_cons, ↓ca_val, ↓ca_keep, ↓ca_lend, ↓I_nil, ↓I_one, ↓src_val, ↓src_rng1, ↓src_rng2, ↓src_enm, ↓src_zip, ↓src_zips, ↓S_asg, ↓S_asgT, ↓S_par, ↓P_nil, ↓P_cons, ↓S_seti, ↓S_augi, ↓S_aug, ↓S_exp, ↓S_ite, ↓S_for, ↓S_retL, ↓S_ret, ↓S_retN, ↓S_brk, ↓S_cnt, ↓S_pas, ↓Ss_nil, ↓Ss_one, ↓Ss_cons, ↓locK_sh, ↓locK_ow, ↓blK_bl, ↓intK_int, ↓argK_sh, ↓argK_ow, ↓argK_io, ↓keepK_val, ↓keepK_pl, ↓lendK_val, ↓lendK_pl, ↓srcK_val, ↓srcK_pl, ↓shK_sh, ↓retK_ow, ↓retK_sh, ↓seqK_nx, ↓seqK_bk, ↓seqK_ct, ↓seqK_rt, ↓endK_rt, ↓endK_nx, ↓turnK_nx, ↓turnK_ct, ↓turnK_bk, ↓turnK_rt, set_mk, at_mk, getD0, getDs, dat_sh, dat_ow, dat_io, own_sh, own_ow, own_io, own_no, upd_ow, upd_io, avdat_val, avdat_pl, vS_s, vS_n, oS_s, oS_n, putOk_vS, putOk_oS, slen, putOk_no, putOk_sh, putOk_ow, okE_int, okE_bl, okE_non, eq_int, eq_bl, Int.zero_add, frS_t, frS_f, ↓putO_eq, ↓asg_nm, asg_tup, asg_lst, putL_nil, ↓putL_cons, putF_nil, ↓putF_cons, wipeT_mk, wipe_nil, wipe_cons, back_nil, back_cons, shO_vS, shO_sh, shO_no, shO_ow, dats_nil, ↓dats_cons, io_nil, io_skip, io_new, ioK_ow, ioK_io, io_pl, outs_nil, ↓outs_t, outs_f, par_t, par_f, par_nil, b_add, b_sub, b_addT, b_addS, b_addL, b_mul, b_mod, b_div, b_pow, b_mulL, b_mulT, r_lst, r_tup, r_str, p_lenS, p_lstS, i_str, l_str, m_ins, m_app, m_ext, x_str, g_add, c_lt, c_le, c_gt, c_ge, c_ltS, c_leS, c_isB, c_isntB, c_is, c_isnt, isNon_oD, isNone_s, isNone_n, isNon_non, isNon_int, isNon_bl, isNon_str, isNon_tup, isNon_lst, noO_oD, okE_oD, c_eq, c_ne, c_in, c_notin, x_lst, x_tup, p_lenL, p_lenT, p_tupL, p_tupT, p_lstL, p_lstT, p_lstF, k_lst, k_str, k_tup, i_lst, i_tup, l_fz, l_lst, l_tup, t_nil, ↓t_cons, tyOf, at_nat, at_lit, ↓fn_q, ↓Opt_iteN, Opt_iteN, Opt_map, List.replicate, List.cons_append, List.nil_append, List.getElem?_cons_zero, List.getElem?_cons_succ, List.set_cons_zero, List.set_cons_succ, ↓iteP_t, ↓iteP_f, iteP_t, iteP_f, ↓reduceIte, Bool.false_eq_true, true_and, and_true, Bool.not_true, Bool.not_false, Bool.and_false, Bool.and_true, Bool.true_and, Bool.false_and, decide_true, decide_false, decide_eq_true_eq, List.any_cons, List.any_nil, Bool.or_false, Bool.or_true, Bool.true_or, Bool.false_or, id, avPls, frN, List.length_cons, List.length_nil, Nat.reduceAdd, Nat.reduceLeDiff, Nat.reduceLT, Int.reduceLE, Int.reduceLT, Int.reduceNeg, Int.reducePow, Int.reduceAdd, Int.reduceMul, Int.reduceSub, Nat.reducePow, Int.reduceToNat, nabs_lit, Int.natAbs_natCast, Int.reduceNe, Int.reduceEq, Nat.reduceMul, Nat.reduceSub, ne_eq, not_false_eq_true, not_true_eq_false, reduceCtorEq, and_self, Nat.reduceEqDiff, set_nat, set_lit, noO_pen, lim_eq, fmodN, fdivN, List.length_map, List.map_set, eq_lst_nil, chars_eq, noO_ch, eq_ch, keep_bl, keep_int, keep_non, keep_str, Bool.and_eq_true, and_assoc, p_intB, p_intI, noO_int, noO_bl, noO_non, noO_str, List.all_cons, List.all_nil, List.nodup_nil, List.nodup_cons, List.mem_cons, List.not_mem_nil, Pl.loc.injEq, or_false, false_or, or_true, true_or, Nat.le_refl, Nat.zero_le, Int.cast_ofNat_Int])
theorem asBls_map' {α : Type} {f : α → Bool} : ∀ {l : List α}, asBls (l.map fun a => .bl (f a)) = some (l.map f)
  | [] => rfl
  | a :: l => by
    show (asBls (l.map fun a => .bl (f a))).map (f a :: ·) = _
    rw [asBls_map']; rfl
theorem p_all_map {α : Type} {f : α → Bool} {l : List α} : primX .all [.lst (l.map fun a => .bl (f a))] = some (.bl (l.all f), false) := by
  rw [p_all, asBls_map']
  simp
theorem p_any_map {α : Type} {f : α → Bool} {l : List α} : primX .any [.lst (l.map fun a => .bl (f a))] = some (.bl (l.any f), false) := by
  rw [p_any, asBls_map']
  simp
theorem asc_eq : ∀ (l l' : List Nat), l.Pairwise (· < ·) → l'.Pairwise (· < ·) → (∀ c, c ∈ l ↔ c ∈ l') → l = l'
  | [], [], _, _, _ => rfl
  | [], y :: l', _, _, h => by have := (h y).mpr (List.mem_cons_self ..); cases this
  | x :: l, [], _, _, h => by have := (h x).mp (List.mem_cons_self ..); cases this
  | x :: l, y :: l', h1, h2, h => by
    rw [List.pairwise_cons] at h1 h2
    have e : x = y := by
      rcases List.mem_cons.mp ((h x).mp (List.mem_cons_self ..)) with e | e
      · exact e
      · rcases List.mem_cons.mp ((h y).mpr (List.mem_cons_self ..)) with e' | e'
        · exact e'.symm
        · have := h1.1 y e'
          have := h2.1 x e
          omega
    subst e
    rw [asc_eq l l' h1.2 h2.2 fun c => ?_]
    constructor
    · intro hc
      rcases List.mem_cons.mp ((h c).mp (List.mem_cons_of_mem _ hc)) with e | e
      · have := h1.1 c hc; omega
      · exact e
    · intro hc
      rcases List.mem_cons.mp ((h c).mpr (List.mem_cons_of_mem _ hc)) with e | e
      · have := h2.1 c hc; omega
      · exact e
theorem sset_alpha {z : Str} (h : Alpha z) : ssetD (.str z) = some (.lst (z.cps.toList.map chD)) := by
  have h4 := h.hi
  obtain ⟨cs, e, h1, h2, _⟩ := sorted_ch z.cps.toList
  have : cs = z.cps.toList := asc_eq _ _ h1 h.up h2
  subst this
  unfold ssetD
  simp only
  rw [if_pos (by omega)]
  show some (D.lst ((srtS (seenK (z.cps.toList.map one))).map D.str)) = _
  rw [e, List.map_map]
  rfl
section
variable {T : Tab} {F : Nat} {dfs : Nat → Option Dfn}
theorem p_is_integer_int [HasD T dfs 18 d_p_is_integer false] {k : Nat} (hk : 1 ≤ k) (i : Int) : Opt (Phi T F dfs k 18 [.int i] []) fun r => r = ⟨.bl true, false, [], []⟩ := by
  refine Phi_q (by omega) fun k e => ?_
  subst e
  unfold d_p_is_integer b_p_is_integer
  dsimp only
  walk_at "ev"
theorem p_is_index_int [HasD T dfs 18 d_p_is_integer false] [HasD T dfs 19 d_p_is_index false] {k : Nat} (hk : 2 ≤ k) (i n : Int) : Opt (Phi T F dfs k 19 [.int i, .int n] []) fun r => r = ⟨.bl (decide (0 ≤ i) && decide (i < n)), false, [], []⟩ := by
  refine Phi_q (by omega) fun k e => ?_
  subst e
  unfold d_p_is_index b_p_is_index
  dsimp only
  walk_at "ev"
  refine Opt_mono (p_is_integer_int (by omega) i) ?_
  rintro _ rfl
  walk_at "ev"
  refine iteP_split (fun hc => ?_) fun hc => ?_
  · walk_at "ev"
    rw [hc]; rfl
  · walk_at "ev"
    rw [hc]; rfl
theorem p_is_alphabet_ok [HasD T dfs 20 d_p_is_alphabet false] {k : Nat} (hk : 1 ≤ k) (z : Str) (hz : Alpha z) : Opt (Phi T F dfs k 20 [.str z] []) fun r => r = ⟨.bl true, false, [], []⟩ := by
  refine Phi_q (by omega) fun k e => ?_
  subst e
  have h1 := hz.lo
  have h4 := hz.hi
  unfold d_p_is_alphabet b_p_is_alphabet
  dsimp only
  walk_at "ev"
  rw [decT (show (1 : Int) ≤ z.cps.size by omega)]
  walk_at "ev"
  rw [decT (show (z.cps.size : Int) ≤ 4 by omega)]
  walk_at "ev"
  refine ⟨by omega, by omega, lcLp_funM (fun _ => .bl true) rfl (fun _ _ => rfl) (fun c hc => ?_) fun st h => ?_⟩
  · have hs := hz.sg c hc
    have e1 : Str.ofString "!" = one 33 := by decide +kernel
    have e2 : Str.ofString "~" = one 126 := by decide +kernel
    rw [e1, e2]
    walk_at "ev"
    unfold chD
    walk_at "ev"
    rw [ltS_one, decF (show ¬ c < 33 by omega)]
    walk_at "ev"
    rw [ltS_one, decF (show ¬ 126 < c by omega)]
    walk_at "ev"
  · rw [h]
    walk_at "ev"
    rw [p_all_map (f := fun _ => true)]
    walk_at "ev"
    rw [show (z.cps.toList.all fun _ => true) = true by simp]
    walk_at "ev"
    rw [sset_alpha hz]
    walk_at "ev"
    have hk : okE 60 (.lst (z.cps.toList.map chD)) = true := by
      rw [okE_lst']
      exact all_map fun c hc => okE_ch (hz.lt hc) 59
    rw [eqD_refl _ _ hk]
    exact ⟨by omega, hk, rfl⟩
theorem p_is_entry_ok [HasD T dfs 18 d_p_is_integer false] [HasD T dfs 19 d_p_is_index false] [HasD T dfs 21 d_p_is_entry false] {k : Nat} (hk : 3 ≤ k) (e : Ent) (z : Str) (n : Nat) (hz : Alpha z) (he : EntOk e z.cps.size n) : Opt (Phi T F dfs k 21 [entD e, .str z, .int n] []) fun r => r = ⟨.bl true, false, [], []⟩ := by
  refine Phi_q (by omega) fun k e => ?_
  subst e
  have h1 := hz.lo
  have h4 := hz.hi
  have hl := he.len
  unfold d_p_is_entry b_p_is_entry entD
  dsimp only
  walk_at "ev"
  rw [decT (show (e.length : Int) = z.cps.size by omega)]
  walk_at "ev"
  refine ⟨by omega, lcLp_funM (h := oD) (fun o => .bl o.isSome) rfl (fun _ _ => rfl) (fun o ho => ?_) fun st h => ?_⟩
  · cases o <;> walk_at "ev" <;> (try (first | rfl | exact ⟨rfl, rfl⟩))
  · rw [h]
    walk_at "ev"
    rw [p_any_map (f := fun o : Option Nat => o.isSome)]
    walk_at "ev"
    rw [show (e.any fun o => o.isSome) = true by
      obtain ⟨m, hm⟩ := he.ex
      exact List.any_eq_true.mpr ⟨_, hm, rfl⟩]
    walk_at "ev"
    refine lcLp_funM (h := oD) (fun o => .bl true) rfl (fun _ _ => rfl) (fun o ho => ?_) fun st h => ?_
    · cases o with
      | none => walk_at "ev"
      | some m =>
        have := he.lt m ho
        unfold oD
        walk_at "ev"
        refine Opt_mono (p_is_index_int (by omega) m n) ?_
        rintro _ rfl
        walk_at "ev"
        rw [decT (show (0 : Int) ≤ m by omega), decT (show (m : Int) < n by omega)]
        try rfl
    · rw [h]
      walk_at "ev"
      rw [p_all_map (f := fun _ => true), show (e.all fun _ => true) = true by simp]
      walk_at "ev"
theorem p_is_state_ok [HasD T dfs 18 d_p_is_integer false] [HasD T dfs 19 d_p_is_index false] [HasD T dfs 21 d_p_is_entry false] [HasD T dfs 22 d_p_is_state false] {k : Nat} (hk : 4 ≤ k) (s : List Ent) (zi zo : Str) (n : Nat) (hi : Alpha zi) (ho : Alpha zo) (hs : StaOk s zi.cps.size zo.cps.size n) : Opt (Phi T F dfs k 22 [staD s, .str zi, .str zo, .int n] []) fun r => r = ⟨.bl true, false, [], []⟩ := by
  refine Phi_q (by omega) fun k e => ?_
  subst e
  have h4 := hi.hi
  have hl := hs.len
  unfold d_p_is_state b_p_is_state staD
  dsimp only
  walk_at "ev"
  rw [decT (show (s.length : Int) = zi.cps.size by omega)]
  walk_at "ev"
  refine ⟨by omega, lcLp_funM (h := entD) (fun o => .bl true) rfl (fun _ _ => rfl) (fun e he => ?_) fun st h => ?_⟩
  · walk_at "ev"
    refine ⟨noO_entD 39 e, Opt_mono (p_is_entry_ok (by omega) e zo n ho (hs.ok e he)) ?_⟩
    rintro _ rfl
    walk_at "ev"
  · rw [h]
    walk_at "ev"
    rw [p_all_map (f := fun _ => true), show (s.all fun _ => true) = true by simp]
    walk_at "ev"
theorem p_is_channel_ok [HasD T dfs 18 d_p_is_integer false] [HasD T dfs 19 d_p_is_index false] [HasD T dfs 20 d_p_is_alphabet false] [HasD T dfs 21 d_p_is_entry false] [HasD T dfs 22 d_p_is_state false] [HasD T dfs 23 d_p_is_channel false] {k : Nat} (hk : 5 ≤ k) (c : Chan) (hc : c.Ok) : Opt (Phi T F dfs k 23 [c.d] []) fun r => r = ⟨.bl true, false, [], []⟩ := by
  refine Phi_q (by omega) fun k e => ?_
  subst e
  unfold d_p_is_channel b_p_is_channel Chan.d
  dsimp only
  walk_at "ev"
  refine Opt_mono (p_is_alphabet_ok (by omega) _ hc.ai) ?_
  rintro _ rfl
  walk_at "ev"
  refine Opt_mono (p_is_alphabet_ok (by omega) _ hc.ao) ?_
  rintro _ rfl
  walk_at "ev"
  have h1 := hc.lo
  have h4 := hc.hi
  rw [decT (show (1 : Int) ≤ c.sts.length by omega)]
  walk_at "ev"
  rw [decT (show (c.sts.length : Int) ≤ 4 by omega)]
  walk_at "ev"
  refine lcLp_funM (h := staD) (fun o => .bl true) rfl (fun _ _ => rfl) (fun s hs => ?_) fun st h => ?_
  · walk_at "ev"
    refine ⟨noO_staD 38 s, Opt_mono (p_is_state_ok (by omega) s _ _ _ hc.ai hc.ao (hc.ok s hs)) ?_⟩
    rintro _ rfl
    walk_at "ev"
  · rw [h]
    walk_at "ev"
    rw [p_all_map (f := fun _ => true), show (c.sts.all fun _ => true) = true by simp]
    walk_at "ev"
end
end Py
/-! Transitions. -/
namespace Py
open PySem PySem.Spec PyProof.Rows L2
local macro_rules | `(tactic| walk_at "ev") => `(tactic| simp -implicitDefEqProofs -dsimp only [nrm_some, ↓kP_mk, ↓kT_mk, ↓kR_mk, ↓kRet_mk, ↓Opt_some, Opt_some, Opt_none, ↓E_loc, ↓E_cst, ↓E_tup, ↓E_lst, ↓E_bin, ↓E_cmp, ↓E_idx, ↓E_chn, ↓E_not, ↓E_and, ↓E_or, ↓E_ite, ↓E_neg, ↓E_callC, ↓E_callO, ↓E_slc, ↓E_rev, ↓E_dnew, ↓E_isi, ↓E_mth, ↓E_mut, ↓E_lc, ↓E_sset, ↓E_lrg, ↓E_trg, ↓E_prm', il_cst, in_cst, il_fld, in_fld, il_nop, il_tup, in_tup, il_lst, in_lst, il_dic, in_dic, il_bin, in_bin, il_neg, in_neg, il_not, in_not, il_cmp, in_cmp, il_chn, in_chn, il_and, in_and, il_or, in_or, il_ite, in_ite, il_call, in_call, il_ocall, in_ocall, il_make, in_make, il_prm, in_prm, il_isi, in_isi, il_idx, in_idx, il_slc, in_slc, il_rev, in_rev, il_mth, in_mth, il_mut, in_mut, il_lc, in_lc, in_loc, ns_len, ns_sum, ns_min, ns_max, ns_min2, ns_max2, ns_sorted, ns_all, ns_any, ns_list, ns_tuple, ns_dict, ns_int, ns_abs, ns_repr, ns_lset, ↓pt_nop, ↓pt_e', ↓arg_loc, ↓arg_ne, ↓A2_q, ↓L_nil, ↓L_cons, ↓Ar_nil, ↓Ar_cons, ↓CA_nil, ↓CA_cons, ↓ca_val, ↓ca_keep, ↓ca_lend, ↓I_nil, ↓I_one, ↓src_val, ↓src_rng1, ↓src_rng2, ↓src_enm, ↓src_zip, ↓src_zips, ↓S_asg, ↓S_asgT, ↓S_par, ↓P_nil, ↓P_cons, ↓S_seti, ↓S_augi, ↓S_aug, ↓S_exp, ↓S_ite, ↓S_for, ↓S_retL, ↓S_ret, ↓S_retN, ↓S_brk, ↓S_cnt, ↓S_pas, ↓Ss_nil, ↓Ss_one, ↓Ss_cons, ↓locK_sh, ↓locK_ow, ↓blK_bl, ↓intK_int, ↓argK_sh, ↓argK_ow, ↓argK_io, ↓keepK_val, ↓keepK_pl, ↓lendK_val, ↓lendK_pl, ↓srcK_val, ↓srcK_pl, ↓shK_sh, ↓retK_ow, ↓retK_sh, ↓seqK_nx, ↓seqK_bk, ↓seqK_ct, ↓seqK_rt, ↓endK_rt, ↓endK_nx, ↓turnK_nx, ↓turnK_ct, ↓turnK_bk, ↓turnK_rt, set_mk, at_mk, getD0, getDs, dat_sh, dat_ow, dat_io, own_sh, own_ow, own_io, own_no, upd_ow, upd_io, avdat_val, avdat_pl, vS_s, vS_n, oS_s, oS_n, putOk_vS, putOk_oS, slen, putOk_no, putOk_sh, putOk_ow, okE_int, okE_bl, okE_non, eq_int, eq_bl, Int.zero_add, frS_t, frS_f, ↓putO_eq, ↓asg_nm, asg_tup, asg_lst, putL_nil, ↓putL_cons, putF_nil, ↓putF_cons, wipeT_mk, wipe_nil, wipe_cons, back_nil, back_cons, shO_vS, shO_sh, shO_no, shO_ow, dats_nil, ↓dats_cons, io_nil, io_skip, io_new, ioK_ow, ioK_io, io_pl, outs_nil, ↓outs_t, outs_f, par_t, par_f, par_nil, b_add, b_sub, b_addT, b_addS, b_addL, b_mul, b_mod, b_div, b_pow, b_mulL, b_mulT, r_lst, r_tup, r_str, p_lenS, p_lstS, i_str, l_str, m_ins, m_app, m_ext, x_str, g_add, c_lt, c_le, c_gt, c_ge, c_ltS, c_leS, c_isB, c_isntB, c_is, c_isnt, isNon_oD, isNone_s, isNone_n, isNon_non, isNon_int, isNon_bl, isNon_str, isNon_tup, isNon_lst, noO_oD, okE_oD, c_eq, c_ne, c_in, c_notin, x_lst, x_tup, p_lenL, p_lenT, p_tupL, p_tupT, p_lstL, p_lstT, p_lstF, k_lst, k_str, k_tup, i_lst, i_tup, l_fz, l_lst, l_tup, t_nil, ↓t_cons, tyOf, at_nat, at_lit, ↓fn_q, ↓Opt_iteN, Opt_iteN, Opt_map, List.replicate, List.cons_append, List.nil_append, List.getElem?_cons_zero, List.getElem?_cons_succ, List.set_cons_zero, List.set_cons_succ, ↓iteP_t, ↓iteP_f, iteP_t, iteP_f, ↓reduceIte, Bool.false_eq_true, true_and, and_true, Bool.not_true, Bool.not_false, Bool.and_false, Bool.and_true, Bool.true_and, Bool.false_and, decide_true, decide_false, decide_eq_true_eq, List.any_cons, List.any_nil, Bool.or_false, Bool.or_true, Bool.true_or, Bool.false_or, id, avPls, frN, List.length_cons, List.length_nil, Nat.reduceAdd, Nat.reduceLeDiff, Nat.reduceLT, Int.reduceLE, Int.reduceLT, Int.reduceNeg, Int.reducePow, Int.reduceAdd, Int.reduceMul, Int.reduceSub, Nat.reducePow, Int.reduceToNat, nabs_lit, Int.natAbs_natCast, Int.reduceNe, Int.reduceEq, Nat.reduceMul, Nat.reduceSub, ne_eq, not_false_eq_true, not_true_eq_false, reduceCtorEq, and_self, Nat.reduceEqDiff, set_nat, set_lit, noO_pen, lim_eq, fmodN, fdivN, List.length_map, List.map_set, eq_lst_nil, chars_eq, noO_ch, eq_ch, keep_bl, keep_int, keep_non, keep_str, Bool.and_eq_true, and_assoc, p_intB, p_intI, noO_int, noO_bl, noO_non, noO_str, List.all_cons, List.all_nil, List.nodup_nil, List.nodup_cons, List.mem_cons, List.not_mem_nil, Pl.loc.injEq, or_false, false_or, or_true, true_or, Nat.le_refl, Nat.zero_le, Int.cast_ofNat_Int])
/-- the outputs of an entry with their next states -/
def outs (z : Str) (e : Ent) : List (Nat × Option Nat) := z.cps.toList.zip e
def pairD (p : Nat × Option Nat) : D := .tup [chD p.1, oD p.2]
/-- the possible ones -/
def trans (z : Str) (e : Ent) : List D := (outs z e).filterMap fun p => if p.2.isNone then none else some (pairD p)
theorem outs_fst {z : Str} {e : Ent} (h : e.length = z.cps.size) : z.cps.toList.map chD = (outs z e).map fun p => chD p.1 := by
  unfold outs
  have : z.cps.toList = (z.cps.toList.zip e).map Prod.fst := by
    rw [List.map_fst_zip]
    rw [Array.length_toList]; omega
  conv => lhs; rw [this]
  rw [List.map_map]; rfl
theorem outs_pairs {z : Str} {e : Ent} : pairsL (z.cps.toList.map chD) (e.map oD) = (outs z e).map pairD := by
  unfold pairsL outs
  rw [List.zipWith_map, List.zip, List.map_zipWith]
  rfl
theorem outs_at {z : Str} {e : Ent} {p : Nat × Option Nat} (h : p ∈ outs z e) : ∃ j : Nat, z.cps.toList[j]? = some p.1 ∧ e[j]? = some p.2 := by
  obtain ⟨j, hj⟩ := List.mem_iff_getElem?.mp h
  unfold outs at hj
  rw [List.getElem?_zip_eq_some] at hj
  exact ⟨j, hj.1, hj.2⟩
theorem idx_sta (s : List Ent) (n : Nat) : idxD (staD s) (.int (n : Nat)) = s[n]?.map entD := by
  unfold staD
  rw [x_tup, at_nat, List.getElem?_map]
theorem idx_ent (s : Ent) (n : Nat) : idxD (entD s) (.int (n : Nat)) = s[n]?.map oD := by
  unfold entD
  rw [x_tup, at_nat, List.getElem?_map]
theorem chan_0 (c : Chan) : idxD c.d (.int 0) = some (.str c.ins) := rfl
theorem chan_1 (c : Chan) : idxD c.d (.int 1) = some (.str c.outs) := rfl
theorem chan_2 (c : Chan) : idxD c.d (.int 2) = some (.tup (c.sts.map staD)) := rfl
theorem pair_1 (p : Nat × Option Nat) : idxD (pairD p) (.int 1) = some (oD p.2) := rfl
theorem noO_pair (n : Nat) (p : Nat × Option Nat) : noO (n + 1) (pairD p) = true := by
  unfold pairD
  rw [noO_tup, List.all_cons, List.all_cons, noO_ch, noO_oD]; rfl
/-- where a def looks -/
structure Spot (c : Chan) (i a : Nat) (e : Ent) : Prop where
  ok : c.Ok
  ex : ∃ (s : List Ent) (ia : Nat), c.sts[i]? = some s ∧ c.ins.cps.toList[ia]? = some a ∧ s[ia]? = some e
theorem Spot.len {c : Chan} {i a : Nat} {e : Ent} (h : Spot c i a e) : EntOk e c.outs.cps.size c.sts.length := by
  obtain ⟨s, ia, h1, h2, h3⟩ := h.ex
  exact (h.ok.ok s (List.mem_of_getElem? h1)).ok e (List.mem_of_getElem? h3)
section
variable {T : Tab} {F : Nat} {dfs : Nat → Option Dfn}
theorem p_next_state_ok [HasD T dfs 36 d_p_next_state false] {k : Nat} (hk : 1 ≤ k) (c : Chan) (i a : Nat) (e : Ent) (j b : Nat) (x : Option Nat) (h : Spot c i a e) (hb : c.outs.cps.toList[j]? = some b) (hx : e[j]? = some x) :
    Opt (Phi T F dfs k 36 [c.d, .int i, chD a, chD b] []) fun r => r = ⟨oD x, false, [], []⟩ := by
  obtain ⟨s, ia, h1, h2, h3⟩ := h.ex
  refine Phi_q (by omega) fun k e => ?_
  subst e
  unfold d_p_next_state b_p_next_state Chan.d
  dsimp only
  walk_at "ev"
  rw [List.getElem?_map, h1]
  walk_at "ev"
  rw [idx_ch h.ok.ai h2]
  walk_at "ev"
  rw [idx_sta, h3]
  walk_at "ev"
  rw [idx_ch h.ok.ao hb]
  walk_at "ev"
  rw [idx_ent, hx]
  walk_at "ev"
theorem p_transitions_ok [HasD T dfs 36 d_p_next_state false] [HasD T dfs 37 d_p_transitions false] {k : Nat} (hk : 2 ≤ k) (c : Chan) (i a : Nat) (e : Ent) (h : Spot c i a e) :
    Opt (Phi T F dfs k 37 [c.d, .int i, chD a] []) fun r => r = ⟨.lst (trans c.outs e), true, [], []⟩ := by
  have hl := h.len
  have h4 := h.ok.ao.hi
  refine Phi_q (by omega) fun k e => ?_
  subst e
  unfold d_p_transitions b_p_transitions
  dsimp only
  walk_at "ev"
  rw [chan_1]
  walk_at "ev"
  rw [outs_fst hl.len]
  refine ⟨by omega, lcLp_funM pairD rfl (fun _ _ => rfl) (fun p hp => ?_) fun st hst => ?_⟩
  · obtain ⟨j, hb, hx⟩ := outs_at hp
    walk_at "ev"
    refine ⟨noO_chan c, Opt_mono (p_next_state_ok (by omega) c i a e j p.1 p.2 h hb hx) ?_⟩
    rintro _ rfl
    walk_at "ev"
    try rfl
  · rw [hst]
    walk_at "ev"
    refine lcLp_mapM (fun p => if p.2.isNone then none else some (pairD p)) rfl (chk_wipeQ rfl rfl rfl) (fun p hp => ?_) fun st hst => ?_
    · walk_at "ev"
      rw [pair_1]
      walk_at "ev"
      refine iteP_split (fun hc => ?_) fun hc => ?_
      · walk_at "ev"
        have : p.2.isNone = false := by simpa using hc
        rw [this]
        first | rfl | exact ⟨rfl, rfl⟩
      · have : p.2.isNone = true := by simpa using hc
        rw [this]
        first | rfl | exact ⟨rfl, rfl⟩
    · rw [hst]
      walk_at "ev"
      rfl
end
end Py
/-! The program's channel with lies. -/
namespace Py
open PySem PySem.Spec PyProof.Rows L2
local macro_rules | `(tactic| walk_at "ev") => `(tactic| simp -implicitDefEqProofs -dsimp only [nrm_some, ↓kP_mk, ↓kT_mk, ↓kR_mk, ↓kRet_mk, ↓Opt_some, Opt_some, Opt_none, ↓E_loc, ↓E_cst, ↓E_tup, ↓E_lst, ↓E_bin, ↓E_cmp, ↓E_idx, ↓E_chn, ↓E_not, ↓E_and, ↓E_or, ↓E_ite, ↓E_neg, ↓E_callC, ↓E_callO, ↓E_slc, ↓E_rev, ↓E_dnew, ↓E_isi, ↓E_mth, ↓E_mut, ↓E_lc, ↓E_sset, ↓E_lrg, ↓E_trg, ↓E_prm', il_cst, in_cst, il_fld, in_fld, il_nop, il_tup, in_tup, il_lst, in_lst, il_dic, in_dic, il_bin, in_bin, il_neg, in_neg, il_not, in_not, il_cmp, in_cmp, il_chn, in_chn, il_and, in_and, il_or, in_or, il_ite, in_ite, il_call, in_call, il_ocall, in_ocall, il_make, in_make, il_prm, in_prm, il_isi, in_isi, il_idx, in_idx, il_slc, in_slc, il_rev, in_rev, il_mth, in_mth, il_mut, in_mut, il_lc, in_lc, in_loc, ns_len, ns_sum, ns_min, ns_max, ns_min2, ns_max2, ns_sorted, ns_all, ns_any, ns_list, ns_tuple, ns_dict, ns_int, ns_abs, ns_repr, ns_lset, ↓pt_nop, ↓pt_e', ↓arg_loc, ↓arg_ne, ↓A2_q, ↓L_nil, ↓L_cons, ↓Ar_nil, ↓Ar_cons, ↓CA_nil, ↓CA_cons, ↓ca_val, ↓ca_keep, ↓ca_lend, ↓I_nil, ↓I_one, ↓src_val, ↓src_rng1, ↓src_rng2, ↓src_enm, ↓src_zip, ↓src_zips, ↓S_asg, ↓S_asgT, ↓S_par, ↓P_nil, ↓P_cons, ↓S_seti, ↓S_augi, ↓S_aug, ↓S_exp, ↓S_ite, ↓S_for, ↓S_retL, ↓S_ret, ↓S_retN, ↓S_brk, ↓S_cnt, ↓S_pas, ↓Ss_nil, ↓Ss_one, ↓Ss_cons, ↓locK_sh, ↓locK_ow, ↓blK_bl, ↓intK_int, ↓argK_sh, ↓argK_ow, ↓argK_io, ↓keepK_val, ↓keepK_pl, ↓lendK_val, ↓lendK_pl, ↓srcK_val, ↓srcK_pl, ↓shK_sh, ↓retK_ow, ↓retK_sh, ↓seqK_nx, ↓seqK_bk, ↓seqK_ct, ↓seqK_rt, ↓endK_rt, ↓endK_nx, ↓turnK_nx, ↓turnK_ct, ↓turnK_bk, ↓turnK_rt, set_mk, at_mk, getD0, getDs, dat_sh, dat_ow, dat_io, own_sh, own_ow, own_io, own_no, upd_ow, upd_io, avdat_val, avdat_pl, vS_s, vS_n, oS_s, oS_n, putOk_vS, putOk_oS, slen, putOk_no, putOk_sh, putOk_ow, okE_int, okE_bl, okE_non, eq_int, eq_bl, Int.zero_add, frS_t, frS_f, ↓putO_eq, ↓asg_nm, asg_tup, asg_lst, putL_nil, ↓putL_cons, putF_nil, ↓putF_cons, wipeT_mk, wipe_nil, wipe_cons, back_nil, back_cons, shO_vS, shO_sh, shO_no, shO_ow, dats_nil, ↓dats_cons, io_nil, io_skip, io_new, ioK_ow, ioK_io, io_pl, outs_nil, ↓outs_t, outs_f, par_t, par_f, par_nil, b_add, b_sub, b_addT, b_addS, b_addL, b_mul, b_mod, b_div, b_pow, b_mulL, b_mulT, r_lst, r_tup, r_str, p_lenS, p_lstS, i_str, l_str, m_ins, m_app, m_ext, x_str, g_add, c_lt, c_le, c_gt, c_ge, c_ltS, c_leS, c_isB, c_isntB, c_is, c_isnt, isNon_oD, isNone_s, isNone_n, isNon_non, isNon_int, isNon_bl, isNon_str, isNon_tup, isNon_lst, noO_oD, okE_oD, c_eq, c_ne, c_in, c_notin, x_lst, x_tup, p_lenL, p_lenT, p_tupL, p_tupT, p_lstL, p_lstT, p_lstF, k_lst, k_str, k_tup, i_lst, i_tup, l_fz, l_lst, l_tup, t_nil, ↓t_cons, tyOf, at_nat, at_lit, ↓fn_q, ↓Opt_iteN, Opt_iteN, Opt_map, List.replicate, List.cons_append, List.nil_append, List.getElem?_cons_zero, List.getElem?_cons_succ, List.set_cons_zero, List.set_cons_succ, ↓iteP_t, ↓iteP_f, iteP_t, iteP_f, ↓reduceIte, Bool.false_eq_true, true_and, and_true, Bool.not_true, Bool.not_false, Bool.and_false, Bool.and_true, Bool.true_and, Bool.false_and, decide_true, decide_false, decide_eq_true_eq, List.any_cons, List.any_nil, Bool.or_false, Bool.or_true, Bool.true_or, Bool.false_or, id, avPls, frN, List.length_cons, List.length_nil, Nat.reduceAdd, Nat.reduceLeDiff, Nat.reduceLT, Int.reduceLE, Int.reduceLT, Int.reduceNeg, Int.reducePow, Int.reduceAdd, Int.reduceMul, Int.reduceSub, Nat.reducePow, Int.reduceToNat, nabs_lit, Int.natAbs_natCast, Int.reduceNe, Int.reduceEq, Nat.reduceMul, Nat.reduceSub, ne_eq, not_false_eq_true, not_true_eq_false, reduceCtorEq, and_self, Nat.reduceEqDiff, set_nat, set_lit, noO_pen, lim_eq, fmodN, fdivN, List.length_map, List.map_set, eq_lst_nil, chars_eq, noO_ch, eq_ch, keep_bl, keep_int, keep_non, keep_str, Bool.and_eq_true, and_assoc, p_intB, p_intI, noO_int, noO_bl, noO_non, noO_str, List.all_cons, List.all_nil, List.nodup_nil, List.nodup_cons, List.mem_cons, List.not_mem_nil, Pl.loc.injEq, or_false, false_or, or_true, true_or, Nat.le_refl, Nat.zero_le, Int.cast_ofNat_Int])
section
variable {T : Tab} {F : Nat} {dfs : Nat → Option Dfn}
theorem p_next_lies_ok [HasD T dfs 34 d_p_next_lies false] {k : Nat} (hk : 1 ≤ k) (u e : Nat) (b : Bool) : Opt (Phi T F dfs k 34 [.int u, .int e, .bl b] []) fun r => r = ⟨oD (if b = true then some u else if u < e then some (u + 1) else none), false, [], []⟩ := by
  refine Phi_q (by omega) fun k e => ?_
  subst e
  unfold d_p_next_lies b_p_next_lies
  dsimp only
  walk_at "ev"
  refine iteP_split (fun hc => ?_) fun hc => ?_
  · walk_at "ev"
    rw [if_pos hc]; rfl
  · walk_at "ev"
    rw [if_neg (by rw [hc]; decide)]
    refine iteP_split (fun hc => ?_) fun hc => ?_
    · have hc := of_decide_eq_true hc
      walk_at "ev"
      rw [if_pos (by omega)]; rfl
    · have hc := of_decide_eq_false hc
      walk_at "ev"
      rw [if_neg (by omega)]; rfl
theorem p_lying_channel_ok [HasD T dfs 34 d_p_next_lies false] [HasD T dfs 35 d_p_lying_channel false] {k : Nat} (hk : 2 ≤ k) (z : Str) (e : Nat) (hz : Alpha z) (he : e ≤ 3) :
    Opt (Phi T F dfs k 35 [.str z, .int e] []) fun r => r = ⟨(lyC z e).d, false, [], []⟩ := by
  refine Phi_q (by omega) fun k e => ?_
  subst e
  unfold d_p_lying_channel b_p_lying_channel
  dsimp only
  have z4 := hz.hi
  walk_at "ev"
  rw [show ((e : Int) + 1) = ((e + 1 : Nat) : Int) by omega]
  refine ⟨by omega, by omega, for_rng (fun j st => ∃ (a b : Option D) (v : Option D), st = ⟨[.sh (.str z), .sh (.int e), .ow (.lst ((List.range j).map fun u => staD (lyS z e u))), vS a, oS v, vS b, .no], []⟩) ⟨none, none, none, rfl⟩ ?_ ?_⟩
  · rintro j _ hj ⟨a, b, v, rfl⟩
    walk_at "ev"
    refine ⟨by omega, for_map (fun p st => ∃ (b : Option D), st = ⟨[.sh (.str z), .sh (.int e), .ow (.lst ((List.range j).map fun u => staD (lyS z e u))), .sh (.int j), .ow (.lst (p.map fun s => entD (lyE z e j s))), vS b, .no], []⟩) ⟨b, rfl⟩ (fun _ _ _ _ _ => rfl) ?_ ?_⟩
    · rintro p s q _ ez ⟨b, rfl⟩
      have hs := hz.lt (show s ∈ z.cps.toList by rw [ez]; simp)
      have hpl : p.length < 4 := by
        have := congrArg List.length ez
        simp only [List.length_append, List.length_cons, Array.length_toList] at this
        omega
      walk_at "ev"
      refine ⟨by omega, lcLp_funM (fun r => oD (if s = r then some j else if j < e then some (j + 1) else none)) rfl (fun _ _ => rfl) (fun r hr => ?_) fun st h => ?_⟩
      · have hr := hz.lt hr
        walk_at "ev"
        rw [okE_ch hs, okE_ch hr]
        refine ⟨rfl, rfl, Opt_mono (p_next_lies_ok (by omega) j e _) ?_⟩
        rintro _ rfl
        walk_at "ev"
        try trivial
      · rw [h]
        walk_at "ev"
        refine ⟨by omega, some (chD s), ?_⟩
        rw [List.map_append, List.map_cons, List.map_nil]
        have : entD (lyE z e j s) = .tup (z.cps.toList.map fun r => oD (if s = r then some j else if j < e then some (j + 1) else none)) := by
          unfold entD lyE
          rw [List.map_map]; rfl
        rw [this]; rfl
    · rintro _ ⟨b, rfl⟩
      walk_at "ev"
      refine ⟨by simp; omega, some (.int j), b, some (.lst (z.cps.toList.map fun s => entD (lyE z e j s))), ?_⟩
      rw [List.range_succ, List.map_append, List.map_cons, List.map_nil]
      have : staD (lyS z e j) = .tup (z.cps.toList.map fun s => entD (lyE z e j s)) := by
        unfold staD lyS
        rw [List.map_map]; rfl
      rw [this]; rfl
  · rintro _ ⟨a, b, v, rfl⟩
    walk_at "ev"
    unfold Chan.d lyC
    rw [show (((e + 1 : Nat) : Int) - 0).toNat = e + 1 by omega, List.map_map]
    rfl
theorem okE_trans {z : Str} {e : Ent} (h : ∀ c ∈ z.cps.toList, c < 1114112) (n : Nat) : okE (n + 2) (.lst (trans z e)) = true := by
  rw [okE_lst']
  unfold trans
  rw [List.all_eq_true]
  intro d hd
  obtain ⟨p, hp, e2⟩ := List.mem_filterMap.mp hd
  split at e2
  · cases e2
  · cases e2
    unfold pairD
    obtain ⟨j, hb, _⟩ := outs_at hp
    rw [okE_tup', List.all_cons, List.all_cons, okE_ch (h p.1 (List.mem_of_getElem? hb)), okE_oD]; rfl
theorem noO_trans (z : Str) (e : Ent) (n : Nat) : noO (n + 2) (.lst (trans z e)) = true := by
  rw [noO_lst]
  unfold trans
  rw [List.all_eq_true]
  intro d hd
  obtain ⟨p, hp, e2⟩ := List.mem_filterMap.mp hd
  split at e2
  · cases e2
  · cases e2
    exact noO_pair n p
end
end Py
/-! Images of lists: equality, search, indices. -/
namespace Py
open PySem PySem.Spec PyProof.Rows L2
def ix {α : Type} [DecidableEq α] (x : α) : List α → Nat
  | [] => 0
  | y :: r => if y = x then 0 else ix x r + 1
theorem ix_at {α : Type} [DecidableEq α] {x : α} : ∀ {l : List α}, x ∈ l → l[ix x l]? = some x
  | y :: r, h => by
    unfold ix
    by_cases e : y = x
    · rw [if_pos e, e]; rfl
    · rw [if_neg e, List.getElem?_cons_succ]
      exact ix_at ((List.mem_cons.mp h).resolve_left fun q => e q.symm)
theorem ix_min {α : Type} [DecidableEq α] {x : α} : ∀ {l : List α} (j : Nat), j < ix x l → l[j]? ≠ some x
  | [], j, h => by unfold ix at h; omega
  | y :: r, j, h => by
    unfold ix at h
    by_cases e : y = x
    · rw [if_pos e] at h; omega
    · rw [if_neg e] at h
      cases j with
      | zero => intro q; exact e (by simpa using q)
      | succ j => rw [List.getElem?_cons_succ]; exact ix_min j (by omega)
theorem ix_of {α : Type} [DecidableEq α] {x : α} {l : List α} {i : Nat} (h : l[i]? = some x) (k : ∀ j, j < i → l[j]? ≠ some x) : ix x l = i := by
  have hm := ix_at (List.mem_of_getElem? h)
  rcases Nat.lt_trichotomy (ix x l) i with q | q | q
  · exact absurd hm (k _ q)
  · exact q
  · exact absurd h (ix_min _ q)
theorem ix_lt {α : Type} [DecidableEq α] {x : α} {l : List α} (h : x ∈ l) : ix x l < l.length := (List.getElem?_eq_some_iff.mp (ix_at h)).1
theorem ix_inj {α : Type} [DecidableEq α] {x y : α} {l : List α} (hx : x ∈ l) (hy : y ∈ l) (h : ix x l = ix y l) : x = y := by
  have h1 := ix_at hx
  rw [h, ix_at hy] at h1
  exact (Option.some.inj h1).symm
theorem ix_nodup {α : Type} [DecidableEq α] {l : List α} (nd : l.Nodup) {i : Nat} {x : α} (h : l[i]? = some x) : ix x l = i := by
  refine ix_of h fun j hj q => ?_
  obtain ⟨h1, e1⟩ := List.getElem?_eq_some_iff.mp h
  obtain ⟨h2, e2⟩ := List.getElem?_eq_some_iff.mp q
  have := List.pairwise_iff_getElem.mp nd j i h2 h1 hj
  exact this (e2.trans e1.symm)
theorem rng_map {α : Type} (g : Nat → α) {n i : Nat} (h : i < n) : ((List.range n).map g)[i]? = some (g i) := by
  rw [List.getElem?_map, List.getElem?_range h]; rfl
def ss (n : Nat) (l : List Nat) : List Nat := (List.range n).filter fun x => decide (x ∈ l)
theorem mem_ss {n x : Nat} {l : List Nat} : x ∈ ss n l ↔ x < n ∧ x ∈ l := by
  unfold ss
  rw [List.mem_filter, List.mem_range, decide_eq_true_eq]
theorem ss_up (n : Nat) (l : List Nat) : (ss n l).Pairwise (· < ·) := List.Pairwise.filter _ List.pairwise_lt_range
theorem ss_nodup (n : Nat) (l : List Nat) : (ss n l).Nodup := (ss_up n l).imp fun {a b} h => Nat.ne_of_lt h
theorem ss_len (n : Nat) (l : List Nat) : (ss n l).length ≤ n := by
  unfold ss
  exact Nat.le_trans (List.length_filter_le _ _) (by rw [List.length_range]; exact Nat.le_refl _)
theorem ss_range {l : List Nat} {m : Nat} (h : ∀ x, x ∈ l ↔ x < m) : ∀ {n : Nat}, m ≤ n → ss n l = List.range m := by
  intro n hn
  obtain ⟨d, rfl⟩ : ∃ d, n = m + d := ⟨n - m, by omega⟩
  induction d with
  | zero =>
    unfold ss
    exact List.filter_eq_self.mpr fun x hx => decide_eq_true ((h x).mpr (List.mem_range.mp hx))
  | succ d ih =>
    have := ih (by omega)
    unfold ss at this ⊢
    rw [show m + (d + 1) = m + d + 1 by omega, List.range_succ, List.filter_append, this, List.filter_cons, if_neg (by rw [decide_eq_true_eq, h]; omega)]
    simp
theorem eqDs_map {α : Type} {h : α → D} (hh : ∀ a b, eqD (h a) (h b) = true ↔ a = b) : ∀ l l' : List α, eqDs (l.map h) (l'.map h) = true ↔ l = l'
  | [], [] => by simp [eqDs]
  | [], b :: l' => by simp [eqDs]
  | a :: l, [] => by simp [eqDs]
  | a :: l, b :: l' => by
    show (eqD (h a) (h b) && eqDs (l.map h) (l'.map h)) = true ↔ _
    rw [Bool.and_eq_true, hh, eqDs_map hh l l', List.cons.injEq]
theorem eqD_int (a b : Nat) : eqD (.int a) (.int b) = true ↔ a = b := by
  rw [eq_int, decide_eq_true_eq]; omega
theorem eqD_oD (a b : Option Nat) : eqD (oD a) (oD b) = true ↔ a = b := by
  cases a with
  | none => cases b with
    | none => simp [oD, eqD]
    | some v => simp [oD, eqD]
  | some u => cases b with
    | none => simp [oD, eqD]
    | some v => rw [show eqD (oD (some u)) (oD (some v)) = eqD (.int u) (.int v) from rfl, eqD_int]; simp
theorem eqD_entD (a b : Ent) : eqD (entD a) (entD b) = true ↔ a = b := eqDs_map eqD_oD a b
theorem eqD_staD (a b : List Ent) : eqD (staD a) (staD b) = true ↔ a = b := eqDs_map eqD_entD a b
def prD (p : Nat × Nat) : D := .tup [.int p.1, .int p.2]
theorem eqD_prD (a b : Nat × Nat) : eqD (prD a) (prD b) = true ↔ a = b := by
  show (eqD (.int a.1) (.int b.1) && (eqD (.int a.2) (.int b.2) && true)) = true ↔ _
  rw [Bool.and_true, Bool.and_eq_true, eqD_int, eqD_int]
  exact ⟨fun h => Prod.ext h.1 h.2, fun h => by rw [h]; exact ⟨rfl, rfl⟩⟩
theorem findD_map {α : Type} [DecidableEq α] {h : α → D} (hh : ∀ a b, eqD (h a) (h b) = true ↔ a = b) {x : α} : ∀ {l : List α}, x ∈ l → findD (h x) (l.map h) = some (ix x l)
  | y :: r, hx => by
    show (if eqD (h y) (h x) then some 0 else (findD (h x) (r.map h)).map (· + 1)) = _
    unfold ix
    by_cases e : y = x
    · rw [if_pos ((hh y x).mpr e), if_pos e]
    · rw [if_neg (fun q => e ((hh y x).mp q)), if_neg e, findD_map hh ((List.mem_cons.mp hx).resolve_left fun q => e q.symm)]; rfl
theorem inD_map {α : Type} [DecidableEq α] {h : α → D} (hh : ∀ a b, eqD (h a) (h b) = true ↔ a = b) {x : α} {l : List α} : inD (h x) (l.map h) = decide (x ∈ l) := by
  unfold inD
  rw [Bool.eq_iff_iff, decide_eq_true_eq, List.any_map, List.any_eq_true]
  constructor
  · rintro ⟨y, hy, q⟩
    rw [← (hh y x).mp q]; exact hy
  · intro hx
    exact ⟨x, hx, (hh x x).mpr rfl⟩
theorem idx_map {α : Type} [DecidableEq α] {h : α → D} (hh : ∀ a b, eqD (h a) (h b) = true ↔ a = b) {x : α} {l : List α} (ho : ∀ a, okE 59 (h a) = true) (ho2 : ∀ a, okE 60 (h a) = true) (hx : x ∈ l) : mthF .index (.lst (l.map h)) [h x] = some (.int (ix x l : Nat), false) := by
  show (if okE 60 (h x) && okE 60 (.lst (l.map h)) then (findD (h x) (l.map h)).map fun i => (D.int (i : Nat), false) else none) = _
  rw [ho2, okE_lst', all_map fun a _ => ho a, findD_map hh hx]; rfl
def nD (n : Nat) : D := .int n
theorem asInts_nat : ∀ l : List Nat, asInts (l.map nD) = some (l.map fun n : Nat => (n : Int))
  | [] => rfl
  | n :: l => by
    show (asInts (l.map nD)).map ((n : Int) :: ·) = _
    rw [asInts_nat l]; rfl
theorem sset_nat {n : Nat} {l : List Nat} (h : ∀ x ∈ l, x < n) (hl : l.length + 1 < 64) : ssetD (.lst (l.map nD)) = some (.lst ((ss n l).map nD)) := by
  have e : srtI (seenK (l.map fun n : Nat => (n : Int))) = (ss n l).map fun n : Nat => (n : Int) := by
    refine (srtI_eq ?_ ?_).symm
    · refine (List.perm_ext_iff_of_nodup ?_ (seen_nodup _)).mpr fun x => ?_
      · exact List.pairwise_map.mpr ((ss_up n l).imp fun {a b} h => by omega)
      · rw [seen_mem, List.mem_map, List.mem_map]
        exact ⟨fun ⟨a, ha, q⟩ => ⟨a, (mem_ss.mp ha).2, q⟩, fun ⟨a, ha, q⟩ => ⟨a, mem_ss.mpr ⟨h a ha, ha⟩, q⟩⟩
    · exact List.pairwise_map.mpr ((ss_up n l).imp fun {a b} h => by omega)
  show (if (l.map nD).length + 1 < 64 then (match asInts (l.map nD), asStrs (l.map nD) with
    | some ns, _ => some (D.lst ((srtI (seenK ns)).map .int))
    | none, some zs => some (.lst ((srtS (seenK zs)).map .str))
    | none, none => none) else none) = _
  rw [if_pos (by rw [List.length_map]; exact hl), asInts_nat]
  show some (D.lst ((srtI (seenK (l.map fun n : Nat => (n : Int)))).map .int)) = _
  rw [e, List.map_map]; rfl
theorem eqD_nD (a b : Nat) : eqD (nD a) (nD b) = true ↔ a = b := eqD_int a b
def clsD (l : List Nat) : D := .lst (l.map nD)
theorem idx_cls {l : List Nat} {a v : Nat} (h : l[a]? = some v) : idxD (clsD l) (.int a) = some (.int v) := by
  unfold clsD
  rw [x_lst, at_nat, List.getElem?_map, h]; rfl
theorem noO_cls (n : Nat) (l : List Nat) : noO (n + 1) (clsD l) = true := by
  unfold clsD
  rw [noO_lst]
  exact all_map fun a _ => noO_int n a
theorem rng_nD (n : Nat) : rngL 0 (n : Int) = (List.range n).map nD := by
  unfold rngL
  rw [show ((n : Int) - 0).toNat = n by omega]
  exact List.map_congr_left fun a _ => by show D.int (0 + (a : Int)) = .int a; rw [Int.zero_add]
theorem lcLp_funI {own : List Nat} {tg : Tg} {ev : Stt → Option R} {en : Stt} {K : List D → Stt → Prop} {c : Option (Pl × List D)} {α : Type} {T : Tab} {Φ : Nat → FnSem} {h : α → D} {l : List α} (f : α → D) (J : Stt → Prop) (hw : wipeT own en = en) (h0 : J en) (hc : ∀ st, J (wipeT own st) → chkOk c st = true)
    (step : ∀ a ∈ l, ∀ st, J st → Opt (asgTg st (h a) tg) fun e1 => Opt (ev e1) (kR fun d fr e3 => d = f a ∧ J (wipeT own e3)))
    (hQ : ∀ e, J (wipeT own e) → K (l.map f) e) : Opt (lcLp (fun x en => asgTg (wipeT own en) x tg) (fun en => evIfs T Φ [] en) ev c (l.map h) en) (kP K) := by
  refine lcLp_inv (fun pre ys st => J st ∧ ∃ p q, l = p ++ q ∧ pre.length = p.length ∧ ys = p.map f) hw ⟨h0, [], l, rfl, rfl, rfl⟩ (fun _ _ st h => hc st h.1) (fun pre x post ys st e ⟨j, p, q, e2, hl, ey⟩ => ?_) (fun ys e ⟨j, p, q, e2, hl, ey⟩ => ?_)
  · obtain ⟨p', a, q', e3, rfl, rfl, rfl⟩ := split_map e
    rw [e3] at e2
    obtain ⟨rfl, rfl⟩ := pre_len e2 (by simpa using hl)
    subst ey
    refine Opt_mono (step a (by rw [e3]; simp) st j) fun e1 z => ?_
    rw [I_nil, kP_mk, iteP_t]
    exact Opt_mono z fun r z => ⟨z.2, p' ++ [a], q', by rw [e3]; simp, by simp, by rw [List.map_append, List.map_cons, z.1]; rfl⟩
  · rw [List.length_map] at hl
    have : q = [] := by
      have := congrArg List.length e2
      rw [List.length_append] at this
      exact List.eq_nil_of_length_eq_zero (by omega)
    subst this
    rw [List.append_nil] at e2
    rw [ey, ← e2]
    exact hQ e j
theorem pairs_map {α β : Type} (f : α → D) (g : β → D) (l : List α) (m : List β) : pairsL (l.map f) (m.map g) = (l.zip m).map fun q => .tup [f q.1, g q.2] := by
  unfold pairsL
  rw [List.zipWith_map, List.zip, List.map_zipWith]
theorem whl_inv {c : Stt → Option (Bool × Stt)} {f : Stt → Option (Fl × Stt)} {S : Fl × Stt → Prop} (I : Nat → Stt → Prop) (N : Nat) (hI : ∀ t st, I t st → t ≤ N)
    (step : ∀ t st, I t st → Opt (c st) (kP fun b e1 => iteP b (Opt (f e1) (turnK (I (t + 1)) S)) (S (.nx, e1)))) : ∀ F t en, N < F + t → I t en → Opt (whlLp c f F en) S := by
  intro F
  induction F with
  | zero => intro t en h i; have := hI t en i; omega
  | succ F ih =>
    intro t en h i
    have st := step t en i
    unfold whlLp
    cases q : c en with
    | none => rw [q] at st; exact st.elim
    | some p =>
      obtain ⟨b, e1⟩ := p
      rw [q, Opt_some] at st
      cases b with
      | false => exact st
      | true =>
        simp only [kP, iteP_t] at st
        simp only
        cases q2 : f e1 with
        | none => rw [q2] at st; exact st.elim
        | some p =>
          obtain ⟨fl, e2⟩ := p
          rw [q2, Opt_some] at st
          cases fl with
          | nx => exact ih (t + 1) e2 (by omega) st
          | ct => exact ih (t + 1) e2 (by omega) st
          | bk => exact st
          | rt d fr => exact st
theorem B_q {T : Tab} {Φ : Nat → FnSem} {c : IE} {en : Stt} {Q : Bool × Stt → Prop} : Opt (evB T Φ c en) Q = Opt (evE T Φ c en) (blK fun b e => Q (b, e)) := by
  unfold evB
  cases evE T Φ c en with
  | none => rfl
  | some r => obtain ⟨d, fr, e⟩ := r; cases d <;> rfl
theorem chk_sh {en : Stt} {x : Pl} {ds : List D} (h : (en.at x).dat = some (.lst ds)) : chkOk (some (x, ds)) en = true := by
  unfold chkOk
  exact if_pos h
theorem eq_fit (v : Nat) (x : Option Nat) : eqD (.int v) (oD x) = decide (some v = x) := by
  rw [Bool.eq_iff_iff, decide_eq_true_eq]
  exact eqD_oD (some v) x
theorem enm_nat (L : List Nat) : enmL (L.map nD) = ((List.range L.length).zip L).map fun q => .tup [nD q.1, nD q.2] := by
  unfold enmL
  rw [List.length_map, List.zip, List.map_zipWith]
  generalize List.range L.length = R
  induction R generalizing L with
  | nil => rfl
  | cons r R ih => cases L with
    | nil => rfl
    | cons a L => rw [List.map_cons, List.zipWith_cons_cons, List.zipWith_cons_cons, ih]; rfl
def fitF (x : Option Nat) (q : Nat × Nat) : Option Nat := if some q.2 = x then some q.1 else none
def fits (L : List Nat) (x : Option Nat) : List Nat := ((List.range L.length).zip L).filterMap (fitF x)
theorem fits_lt {L : List Nat} {x : Option Nat} {k : Nat} (h : k ∈ fits L x) : k < L.length := by
  obtain ⟨q, hq, e⟩ := List.mem_filterMap.mp h
  unfold fitF at e
  split at e
  · cases e
    exact List.mem_range.mp (List.of_mem_zip hq).1
  · cases e
theorem fits_ne {L : List Nat} {u : Nat} (h : u ∈ L) : 0 < (fits L (some u)).length := by
  obtain ⟨i, hi⟩ := List.mem_iff_getElem?.mp h
  have hl := (List.getElem?_eq_some_iff.mp hi).1
  refine List.length_pos_of_mem (a := i) (List.mem_filterMap.mpr ⟨(i, u), List.mem_iff_getElem?.mpr ⟨i, List.getElem?_zip_eq_some.mpr ⟨List.getElem?_range hl, hi⟩⟩, ?_⟩)
  unfold fitF
  rw [if_pos rfl]
theorem fits_len (L : List Nat) (x : Option Nat) : (fits L x).length ≤ L.length := by
  unfold fits
  refine Nat.le_trans (List.length_filterMap_le _ _) ?_
  rw [List.length_zip, List.length_range]; omega
end Py
set_option maxHeartbeats 4000000
/-! Simulations: recognized, by the program and by the law. -/
namespace Py
open PySem PySem.Spec PyProof.Rows L2
local macro_rules | `(tactic| walk_at "ev") => `(tactic| simp -implicitDefEqProofs -dsimp only [nrm_some, ↓kP_mk, ↓kT_mk, ↓kR_mk, ↓kRet_mk, ↓Opt_some, Opt_some, Opt_none, ↓E_loc, ↓E_cst, ↓E_tup, ↓E_lst, ↓E_bin, ↓E_cmp, ↓E_idx, ↓E_chn, ↓E_not, ↓E_and, ↓E_or, ↓E_ite, ↓E_neg, ↓E_callC, ↓E_callO, ↓E_slc, ↓E_rev, ↓E_dnew, ↓E_isi, ↓E_mth, ↓E_mut, ↓E_lc, ↓E_sset, ↓E_lrg, ↓E_trg, ↓E_prm', il_cst, in_cst, il_fld, in_fld, il_nop, il_tup, in_tup, il_lst, in_lst, il_dic, in_dic, il_bin, in_bin, il_neg, in_neg, il_not, in_not, il_cmp, in_cmp, il_chn, in_chn, il_and, in_and, il_or, in_or, il_ite, in_ite, il_call, in_call, il_ocall, in_ocall, il_make, in_make, il_prm, in_prm, il_isi, in_isi, il_idx, in_idx, il_slc, in_slc, il_rev, in_rev, il_mth, in_mth, il_mut, in_mut, il_lc, in_lc, in_loc, ns_len, ns_sum, ns_min, ns_max, ns_min2, ns_max2, ns_sorted, ns_all, ns_any, ns_list, ns_tuple, ns_dict, ns_int, ns_abs, ns_repr, ns_lset, ↓pt_nop, ↓pt_e', ↓arg_loc, ↓arg_ne, ↓A2_q, ↓L_nil, ↓L_cons, ↓Ar_nil, ↓Ar_cons, ↓CA_nil, ↓CA_cons, ↓ca_val, ↓ca_keep, ↓ca_lend, ↓I_nil, ↓I_one, ↓src_val, ↓src_rng1, ↓src_rng2, ↓src_enm, ↓src_zip, ↓src_zips, ↓S_asg, ↓S_asgT, ↓S_par, ↓P_nil, ↓P_cons, ↓S_seti, ↓S_augi, ↓S_aug, ↓S_exp, ↓S_ite, ↓S_for, ↓S_retL, ↓S_ret, ↓S_retN, ↓S_brk, ↓S_cnt, ↓S_pas, ↓Ss_nil, ↓Ss_one, ↓Ss_cons, ↓locK_sh, ↓locK_ow, ↓blK_bl, ↓intK_int, ↓argK_sh, ↓argK_ow, ↓argK_io, ↓keepK_val, ↓keepK_pl, ↓lendK_val, ↓lendK_pl, ↓srcK_val, ↓srcK_pl, ↓shK_sh, ↓retK_ow, ↓retK_sh, ↓seqK_nx, ↓seqK_bk, ↓seqK_ct, ↓seqK_rt, ↓endK_rt, ↓endK_nx, ↓turnK_nx, ↓turnK_ct, ↓turnK_bk, ↓turnK_rt, set_mk, at_mk, getD0, getDs, dat_sh, dat_ow, dat_io, own_sh, own_ow, own_io, own_no, upd_ow, upd_io, avdat_val, avdat_pl, vS_s, vS_n, oS_s, oS_n, putOk_vS, putOk_oS, slen, putOk_no, putOk_sh, putOk_ow, okE_int, okE_bl, okE_non, eq_int, eq_bl, Int.zero_add, frS_t, frS_f, ↓putO_eq, ↓asg_nm, asg_tup, asg_lst, putL_nil, ↓putL_cons, putF_nil, ↓putF_cons, wipeT_mk, wipe_nil, wipe_cons, back_nil, back_cons, shO_vS, shO_sh, shO_no, shO_ow, dats_nil, ↓dats_cons, io_nil, io_skip, io_new, ioK_ow, ioK_io, io_pl, outs_nil, ↓outs_t, outs_f, par_t, par_f, par_nil, b_add, b_sub, b_addT, b_addS, b_addL, b_mul, b_mod, b_div, b_pow, b_mulL, b_mulT, r_lst, r_tup, r_str, p_lenS, p_lstS, i_str, l_str, m_ins, m_app, m_ext, x_str, g_add, c_lt, c_le, c_gt, c_ge, c_ltS, c_leS, c_isB, c_isntB, c_is, c_isnt, isNon_oD, isNone_s, isNone_n, isNon_non, isNon_int, isNon_bl, isNon_str, isNon_tup, isNon_lst, noO_oD, okE_oD, c_eq, c_ne, c_in, c_notin, x_lst, x_tup, p_lenL, p_lenT, p_tupL, p_tupT, p_lstL, p_lstT, p_lstF, k_lst, k_str, k_tup, i_lst, i_tup, l_fz, l_lst, l_tup, t_nil, ↓t_cons, tyOf, at_nat, at_lit, ↓fn_q, ↓Opt_iteN, Opt_iteN, Opt_map, List.replicate, List.cons_append, List.nil_append, List.getElem?_cons_zero, List.getElem?_cons_succ, List.set_cons_zero, List.set_cons_succ, ↓iteP_t, ↓iteP_f, iteP_t, iteP_f, ↓reduceIte, Bool.false_eq_true, true_and, and_true, Bool.not_true, Bool.not_false, Bool.and_false, Bool.and_true, Bool.true_and, Bool.false_and, decide_true, decide_false, decide_eq_true_eq, List.any_cons, List.any_nil, Bool.or_false, Bool.or_true, Bool.true_or, Bool.false_or, id, avPls, frN, List.length_cons, List.length_nil, Nat.reduceAdd, Nat.reduceLeDiff, Nat.reduceLT, Int.reduceLE, Int.reduceLT, Int.reduceNeg, Int.reducePow, Int.reduceAdd, Int.reduceMul, Int.reduceSub, Nat.reducePow, Int.reduceToNat, nabs_lit, Int.natAbs_natCast, Int.reduceNe, Int.reduceEq, Nat.reduceMul, Nat.reduceSub, ne_eq, not_false_eq_true, not_true_eq_false, reduceCtorEq, and_self, Nat.reduceEqDiff, set_nat, set_lit, noO_pen, lim_eq, fmodN, fdivN, List.length_map, List.map_set, eq_lst_nil, chars_eq, noO_ch, eq_ch, keep_bl, keep_int, keep_non, keep_str, Bool.and_eq_true, and_assoc, p_intB, p_intI, noO_int, noO_bl, noO_non, noO_str, List.all_cons, List.all_nil, List.nodup_nil, List.nodup_cons, List.mem_cons, List.not_mem_nil, Pl.loc.injEq, or_false, false_or, or_true, true_or, Nat.le_refl, Nat.zero_le, Int.cast_ofNat_Int])
theorem st_of {c : Chan} {a : Nat} (ha : a < c.sts.length) : ∃ s, c.sts[a]? = some s ∧ s ∈ c.sts := ⟨_, List.getElem?_eq_getElem ha, List.getElem_mem ha⟩
theorem oD_s (u : Nat) : oD (some u) = .int u := rfl
theorem oD_n : oD none = .non := rfl
theorem eq_fit2 (y : Option Nat) (v : Nat) : eqD (oD y) (nD v) = decide (y = some v) := by
  rw [Bool.eq_iff_iff, decide_eq_true_eq]
  exact eqD_oD y (some v)
/-- an entry's outputs are possible in another one, with the states that correspond -/
def Cor (L : List Nat) (e e' : Ent) : Prop := ∀ q ∈ e.zip e', ∀ u, q.1 = some u → q.2 = L[u]?
def SimP (W S : List (List Ent)) (L : List Nat) : Prop := ∀ q ∈ (List.range L.length).zip L, ∀ s s', W[q.1]? = some s → S[q.2]? = some s' → ∀ z ∈ s.zip s', Cor L z.1 z.2
def idxB (m : Nat) : D → Bool
  | .int i => decide (0 ≤ i) && decide (i < m)
  | _ => false
theorem idxB_map (m : Nat) (L : List Nat) : (L.map nD).all (idxB m) = true ↔ ∀ v ∈ L, v < m := by
  rw [List.all_map, List.all_eq_true]
  constructor
  · intro h v hv
    have := h v hv
    simp only [Function.comp, nD, idxB, Bool.and_eq_true, decide_eq_true_eq] at this
    omega
  · intro h v hv
    have := h v hv
    simp only [Function.comp, nD, idxB, Bool.and_eq_true, decide_eq_true_eq]
    omega
theorem idxB_all {m : Nat} : ∀ {xs : List D}, xs.all (idxB m) = true → ∃ L : List Nat, xs = L.map nD
  | [], _ => ⟨[], rfl⟩
  | x :: xs, h => by
    rw [List.all_cons, Bool.and_eq_true] at h
    obtain ⟨L, rfl⟩ := idxB_all h.2
    cases x with
    | int i =>
      have h1 := h.1
      simp only [idxB, Bool.and_eq_true, decide_eq_true_eq] at h1
      refine ⟨i.toNat :: L, ?_⟩
      rw [List.map_cons]
      unfold nD
      rw [Int.toNat_of_nonneg h1.1]
    | _ => exact absurd (show false = true from h.1) (by decide)
/-- what it is to be a simulation -/
def SimD (W S : Chan) (d : D) : Prop := ∃ L : List Nat, d = .tup (L.map nD) ∧ L.length = W.sts.length ∧ (∀ v ∈ L, v < S.sts.length) ∧ SimP W.sts S.sts L
theorem nD_map_inj : ∀ {L L' : List Nat}, L.map nD = L'.map nD → L = L'
  | [], [], _ => rfl
  | [], b :: L', h => by cases h
  | a :: L, [], h => by cases h
  | a :: L, b :: L', h => by
    injection h with h1 h2
    unfold nD at h1
    injection h1 with h1
    rw [nD_map_inj h2, show a = b by omega]
theorem simD_map {W S : Chan} {L : List Nat} : SimD W S (.tup (L.map nD)) ↔ L.length = W.sts.length ∧ (∀ v ∈ L, v < S.sts.length) ∧ SimP W.sts S.sts L := by
  constructor
  · rintro ⟨L', e, h⟩
    injection e with e
    rw [nD_map_inj e]; exact h
  · exact fun h => ⟨L, rfl, h⟩
mutual
theorem okR_mono : ∀ (n m : Nat) (d : D), n ≤ m → okR n d = true → okR m d = true
  | _, m, .non, _, _ => by cases m <;> rfl
  | _, m, .bl _, _, _ => by cases m <;> rfl
  | _, m, .int _, _, _ => by cases m <;> rfl
  | n, m, .str x, _, h => by
    have h : PyData.strOk x = true := by cases n <;> exact h
    cases m <;> exact h
  | n + 1, m + 1, .tup xs, hm, h => okR_monos n m xs (by omega) h
  | n + 1, m + 1, .lst xs, hm, h => okR_monos n m xs (by omega) h
  | n + 1, m + 1, .dic kvs, hm, h => okR_monok n m kvs (by omega) h
  | n + 1, 0, .tup xs, hm, h => by omega
  | n + 1, 0, .lst xs, hm, h => by omega
  | n + 1, 0, .dic xs, hm, h => by omega
  | 0, _, .tup _, _, h => by cases h
  | 0, _, .lst _, _, h => by cases h
  | 0, _, .dic _, _, h => by cases h
  | n, _, .obj _, _, h => by cases n <;> cases h
  | n, _, .fz _, _, h => by cases n <;> cases h
theorem okR_monos : ∀ (n m : Nat) (xs : List D), n ≤ m → xs.all (okR n) = true → xs.all (okR m) = true
  | _, _, [], _, _ => rfl
  | n, m, x :: xs, hm, h => by
    rw [List.all_cons, Bool.and_eq_true] at h
    rw [List.all_cons, okR_mono n m x hm h.1, okR_monos n m xs hm h.2]; rfl
theorem okR_monok : ∀ (n m : Nat) (xs : List (D × D)), n ≤ m → (xs.all fun p => okR n p.1 && okR n p.2) = true → (xs.all fun p => okR m p.1 && okR m p.2) = true
  | _, _, [], _, _ => rfl
  | n, m, (a, b) :: xs, hm, h => by
    obtain ⟨h1, h2, h3⟩ := okR_dic1 h
    rw [List.all_cons, okR_monok n m xs hm h3]
    show (okR m a && okR m b && true) = true
    rw [okR_mono n m a hm h1, okR_mono n m b hm h2]; rfl
end
mutual
theorem okR_noO : ∀ (n m : Nat) (d : D), n ≤ m → okR n d = true → noO m d = true
  | _, m, .non, _, _ => noO_non m
  | _, m, .bl _, _, _ => noO_bl m _
  | _, m, .int _, _, _ => noO_int m _
  | _, m, .str _, _, _ => noO_str m _
  | n + 1, m + 1, .tup xs, hm, h => okR_noOs n m xs (by omega) h
  | n + 1, m + 1, .lst xs, hm, h => okR_noOs n m xs (by omega) h
  | n + 1, m + 1, .dic kvs, hm, h => okR_noOk n m kvs (by omega) h
  | n + 1, 0, .tup xs, hm, h => by omega
  | n + 1, 0, .lst xs, hm, h => by omega
  | n + 1, 0, .dic xs, hm, h => by omega
  | 0, _, .tup _, _, h => by cases h
  | 0, _, .lst _, _, h => by cases h
  | 0, _, .dic _, _, h => by cases h
  | n, _, .obj _, _, h => by cases n <;> cases h
  | n, _, .fz _, _, h => by cases n <;> cases h
theorem okR_noOs : ∀ (n m : Nat) (xs : List D), n ≤ m → xs.all (okR n) = true → xs.all (noO m) = true
  | _, _, [], _, _ => rfl
  | n, m, x :: xs, hm, h => by
    rw [List.all_cons, Bool.and_eq_true] at h
    rw [List.all_cons, okR_noO n m x hm h.1, okR_noOs n m xs hm h.2]; rfl
theorem okR_noOk : ∀ (n m : Nat) (xs : List (D × D)), n ≤ m → (xs.all fun p => okR n p.1 && okR n p.2) = true → (xs.all fun p => noO m p.1 && noO m p.2) = true
  | _, _, [], _, _ => rfl
  | n, m, (a, b) :: xs, hm, h => by
    obtain ⟨h1, h2, h3⟩ := okR_dic1 h
    rw [List.all_cons, okR_noOk n m xs hm h3]
    show (noO m a && noO m b && true) = true
    rw [okR_noO n m a hm h1, okR_noO n m b hm h2]; rfl
end
theorem noO_nDs (n : Nat) (L : List Nat) : noO (n + 1) (.tup (L.map nD)) = true := by
  rw [noO_tup]
  exact all_map fun a _ => noO_int n a
theorem zip_mem_l {α β : Type} {l : List α} {m : List β} {q : α × β} (h : q ∈ l.zip m) : q.1 ∈ l := (List.of_mem_zip h).1
theorem zip_mem_r {α β : Type} {l : List α} {m : List β} {q : α × β} (h : q ∈ l.zip m) : q.2 ∈ m := (List.of_mem_zip h).2
section
variable {T : Tab} {F : Nat} {dfs : Nat → Option Dfn}
def isInt : D → Bool
  | .int _ => true
  | _ => false
theorem p_is_integer_any [HasD T dfs 18 d_p_is_integer false] {k : Nat} (hk : 1 ≤ k) (n : Nat) (x : D) (hx : okR n x = true) : Opt (Phi T F dfs k 18 [x] []) fun r => r = ⟨.bl (isInt x), false, [], []⟩ := by
  refine Phi_q (by omega) fun k e => ?_
  subst e
  unfold d_p_is_integer b_p_is_integer
  dsimp only
  cases x with
  | obj _ => cases n <;> cases hx
  | fz _ => cases n <;> cases hx
  | _ => walk_at "ev" <;> rfl
theorem p_is_index_any [HasD T dfs 18 d_p_is_integer false] [HasD T dfs 19 d_p_is_index false] {k : Nat} (hk : 2 ≤ k) (n : Nat) (x : D) (hx : okR n x = true) (hn : n ≤ 40) (m : Nat) : Opt (Phi T F dfs k 19 [x, .int m] []) fun r => r = ⟨.bl (idxB m x), false, [], []⟩ := by
  cases hi : isInt x with
  | true =>
    cases x with
    | int i => exact p_is_index_int hk i m
    | _ => cases hi
  | false =>
    refine Phi_q (by omega) fun k e => ?_
    subst e
    unfold d_p_is_index b_p_is_index
    dsimp only
    walk_at "ev"
    refine ⟨okR_noO n 40 x hn hx, Opt_mono (p_is_integer_any (by omega) n x hx) ?_⟩
    rintro _ rfl
    rw [hi]
    walk_at "ev"
    cases x <;> first | rfl | cases hi
theorem p_corresponds_ok [HasD T dfs 271 d_p_corresponds false] {k : Nat} (hk : 1 ≤ k) (e e' : Ent) (L : List Nat) (hl : e.length = e'.length) (he : ∀ m, some m ∈ e → m < L.length) :
    Opt (Phi T F dfs k 271 [entD e, entD e', .tup (L.map nD)] []) fun r => ∃ w, r = ⟨.bl w, false, [], []⟩ ∧ (w = true ↔ Cor L e e') := by
  refine Phi_q (by omega) fun k e => ?_
  subst e
  unfold d_p_corresponds b_p_corresponds
  dsimp only
  walk_at "ev"
  unfold entD
  walk_at "ev"
  rw [pairs_map]
  refine ⟨hl, for_map (fun p st => (∀ q ∈ p, ∀ u, q.1 = some u → q.2 = L[u]?) ∧ ∃ a3 a4, st = ⟨[.sh (entD e), .sh (entD e'), .sh (.tup (L.map nD)), vS a3, vS a4], []⟩) ⟨by simp, none, none, rfl⟩ (fun _ _ _ _ _ => rfl) ?_ ?_⟩
  · rintro p z post _ ez ⟨hp, a3, a4, rfl⟩
    have hz : z ∈ e.zip e' := by rw [ez]; simp
    have ext : (∀ u, z.1 = some u → z.2 = L[u]?) → ∀ y ∈ p ++ [z], ∀ u, y.1 = some u → y.2 = L[u]? := by
      intro h y hy
      rcases List.mem_append.mp hy with hy | hy
      · exact hp y hy
      · simp only [List.mem_cons, List.not_mem_nil, or_false] at hy
        rw [hy]; exact h
    obtain ⟨x, y⟩ := z
    cases x with
    | none =>
      walk_at "ev"
      exact ⟨ext (fun u h => nomatch h), some _, some _, rfl⟩
    | some u =>
      have hu := he u (zip_mem_l hz)
      have hg : L[u]? = some L[u] := List.getElem?_eq_getElem hu
      rw [oD_s]
      walk_at "ev"
      rw [List.getElem?_map, hg]
      walk_at "ev"
      refine ⟨okE_int 60 _, iteP_split (fun hc => ?_) fun hc => ?_⟩
      · have hc : ¬ y = some L[u] := by rw [eq_fit2] at hc; simpa using hc
        walk_at "ev"
        exact ⟨false, rfl, iff_of_false (by decide) fun h => hc (by rw [← hg]; exact h _ hz u rfl)⟩
      · have hc : y = some L[u] := by rw [eq_fit2] at hc; simpa using hc
        walk_at "ev"
        exact ⟨ext (fun v h => by cases h; rw [hg]; exact hc), some _, some _, rfl⟩
  · rintro _ ⟨hp, a3, a4, rfl⟩
    walk_at "ev"
    exact ⟨true, rfl, iff_of_true rfl hp⟩
theorem p_is_simulation_ok [HasD T dfs 18 d_p_is_integer false] [HasD T dfs 19 d_p_is_index false] [HasD T dfs 271 d_p_corresponds false] [HasD T dfs 272 d_p_is_simulation false] {k : Nat} (hk : 3 ≤ k) (W S : Chan) (hW : W.Ok) (hS : S.Ok) (hi : W.ins = S.ins) (ho : W.outs = S.outs) (n : Nat) (hn : n ≤ 40) (x : D) (hx : okR (n + 1) x = true) :
    Opt (Phi T F dfs k 272 [W.d, S.d, x] []) fun r => ∃ w, r = ⟨.bl w, false, [], []⟩ ∧ (w = true ↔ SimD W S x) := by
  refine Phi_q (by omega) fun k e => ?_
  subst e
  unfold d_p_is_simulation b_p_is_simulation
  dsimp only
  have no : (∀ xs, x ≠ .tup xs) → ¬ SimD W S x := fun h ⟨L, e, _⟩ => h _ e
  cases x with
  | obj _ => cases hx
  | fz _ => cases hx
  | non => walk_at "ev"; exact ⟨false, rfl, iff_of_false (by decide) (no fun _ h => by cases h)⟩
  | bl _ => walk_at "ev"; exact ⟨false, rfl, iff_of_false (by decide) (no fun _ h => by cases h)⟩
  | int _ => walk_at "ev"; exact ⟨false, rfl, iff_of_false (by decide) (no fun _ h => by cases h)⟩
  | str _ => walk_at "ev"; exact ⟨false, rfl, iff_of_false (by decide) (no fun _ h => by cases h)⟩
  | lst _ => walk_at "ev"; exact ⟨false, rfl, iff_of_false (by decide) (no fun _ h => by cases h)⟩
  | dic _ => walk_at "ev"; exact ⟨false, rfl, iff_of_false (by decide) (no fun _ h => by cases h)⟩
  | tup xs =>
    walk_at "ev"
    rw [chan_2]
    walk_at "ev"
    refine iteP_split (fun hc => ?_) fun hc => ?_
    · walk_at "ev"
      refine ⟨false, rfl, iff_of_false (by decide) fun ⟨L, e, hl, _⟩ => ?_⟩
      cases e
      rw [List.length_map, hl] at hc
      simp at hc
    · have hlen : xs.length = W.sts.length := by
        have : (xs.length : Int) = (W.sts.length : Int) := by simpa using hc
        omega
      walk_at "ev"
      refine lcLp_fun (fun x => .bl (idxB S.sts.length x)) rfl (fun _ _ => rfl) (fun y hy => ?_) fun st hst => ?_
      · walk_at "ev"
        rw [chan_2]
        walk_at "ev"
        have hy' : okR n y = true := List.all_eq_true.mp hx y hy
        refine ⟨okR_noO n 40 y (by omega) hy', Opt_mono (p_is_index_any (by omega) n y hy' hn S.sts.length) ?_⟩
        rintro _ rfl
        walk_at "ev"
      · rw [hst]
        walk_at "ev"
        rw [p_all_map (f := idxB S.sts.length)]
        walk_at "ev"
        refine iteP_split (fun hc => ?_) fun hc => ?_
        · walk_at "ev"
          refine ⟨false, rfl, iff_of_false (by decide) fun ⟨L, e, hl, hb, _⟩ => ?_⟩
          cases e
          rw [(idxB_map _ _).mpr hb] at hc
          cases hc
        · have hc : xs.all (idxB S.sts.length) = true := by simpa using hc
          obtain ⟨L, rfl⟩ := idxB_all hc
          have hb := (idxB_map _ _).mp hc
          rw [List.length_map] at hlen
          have back : SimP W.sts S.sts L → SimD W S (.tup (L.map nD)) := fun h => ⟨L, rfl, hlen, hb, h⟩
          have forth : SimD W S (.tup (L.map nD)) → SimP W.sts S.sts L := fun h => (simD_map.mp h).2.2
          walk_at "ev"
          rw [enm_nat]
          refine for_map (fun p st => (∀ q ∈ p, ∀ s s', W.sts[q.1]? = some s → S.sts[q.2]? = some s' → ∀ z ∈ s.zip s', Cor L z.1 z.2) ∧ ∃ a3 a4 a5 a6, st = ⟨[.sh W.d, .sh S.d, .sh (.tup (L.map nD)), vS a3, vS a4, vS a5, vS a6], []⟩) ⟨by simp, none, none, none, none, rfl⟩ (fun _ _ _ _ _ => rfl) ?_ ?_
          · rintro p q post _ ez ⟨hp, a3, a4, a5, a6, rfl⟩
            have hq : q ∈ (List.range L.length).zip L := by rw [ez]; simp
            have h1 : q.1 < W.sts.length := by have := List.mem_range.mp (zip_mem_l hq); omega
            have h2 := hb _ (zip_mem_r hq)
            obtain ⟨s, hs, ms⟩ := st_of h1
            obtain ⟨s', hs', ms'⟩ := st_of h2
            have oks := hW.ok s ms
            have oks' := hS.ok s' ms'
            unfold nD
            walk_at "ev"
            rw [chan_2]
            walk_at "ev"
            rw [List.getElem?_map, hs]
            walk_at "ev"
            rw [chan_2]
            walk_at "ev"
            rw [List.getElem?_map, hs']
            walk_at "ev"
            unfold staD
            walk_at "ev"
            rw [pairs_map]
            refine ⟨by rw [oks.len, oks'.len, hi], for_map (fun p st => (∀ z ∈ p, Cor L z.1 z.2) ∧ ∃ a5 a6, st = ⟨[.sh W.d, .sh S.d, .sh (.tup (L.map nD)), .sh (nD q.1), .sh (nD q.2), vS a5, vS a6], []⟩) ⟨by simp, a5, a6, rfl⟩ (fun _ _ _ _ _ => rfl) ?_ ?_⟩
            · rintro p2 z post2 _ ez2 ⟨hp2, a5, a6, rfl⟩
              have hz : z ∈ s.zip s' := by rw [ez2]; simp
              have oke := oks.ok z.1 (zip_mem_l hz)
              have oke' := oks'.ok z.2 (zip_mem_r hz)
              walk_at "ev"
              refine ⟨noO_entD 39 _, noO_entD 39 _, noO_nDs 39 L, Opt_mono (p_corresponds_ok (by omega) z.1 z.2 L (by rw [oke.len, oke'.len, ho]) (fun m hm => by rw [hlen]; exact oke.lt m hm)) ?_⟩
              rintro _ ⟨w, rfl, hw⟩
              walk_at "ev"
              cases w with
              | true =>
                walk_at "ev"
                refine ⟨fun y hy => ?_, some _, some _, rfl⟩
                rcases List.mem_append.mp hy with hy | hy
                · exact hp2 y hy
                · simp only [List.mem_cons, List.not_mem_nil, or_false] at hy
                  rw [hy]; exact hw.mp rfl
              | false =>
                walk_at "ev"
                exact ⟨false, rfl, iff_of_false (by decide) fun h => by cases hw.mpr (forth h q hq s s' hs hs' z hz)⟩
            · rintro _ ⟨hp2, a5, a6, rfl⟩
              walk_at "ev"
              refine ⟨fun y hy t t' ht ht' => ?_, some _, some _, a5, a6, rfl⟩
              rcases List.mem_append.mp hy with hy | hy
              · exact hp y hy t t' ht ht'
              · simp only [List.mem_cons, List.not_mem_nil, or_false] at hy
                subst hy
                rw [hs] at ht
                rw [hs'] at ht'
                cases ht; cases ht'
                exact hp2
          · rintro _ ⟨hp, a3, a4, a5, a6, rfl⟩
            walk_at "ev"
            exact ⟨true, rfl, iff_of_true rfl (back hp)⟩
theorem l_is_simulation_ok [HasD T dfs 273 d_l_is_simulation false] {k : Nat} (hk : 1 ≤ k) (W S : Chan) (hW : W.Ok) (hS : S.Ok) (hi : W.ins = S.ins) (ho : W.outs = S.outs) (L : List Nat) (hlen : L.length = W.sts.length) (hb : ∀ v ∈ L, v < S.sts.length) :
    Opt (Phi T F dfs k 273 [W.d, S.d, .tup (L.map nD)] []) fun r => ∃ w, r = ⟨.bl w, false, [], []⟩ ∧ (w = true ↔ SimP W.sts S.sts L) := by
  refine Phi_q (by omega) fun k e => ?_
  subst e
  unfold d_l_is_simulation b_l_is_simulation
  dsimp only
  walk_at "ev"
  rw [enm_nat]
  refine for_map (fun p st => (∀ q ∈ p, ∀ s s', W.sts[q.1]? = some s → S.sts[q.2]? = some s' → ∀ z ∈ s.zip s', Cor L z.1 z.2) ∧ ∃ a3 a4 a5 a6 a7 a8, st = ⟨[.sh W.d, .sh S.d, .sh (.tup (L.map nD)), vS a3, vS a4, vS a5, vS a6, vS a7, vS a8], []⟩) ⟨by simp, none, none, none, none, none, none, rfl⟩ (fun _ _ _ _ _ => rfl) ?_ ?_
  · rintro p q post _ ez ⟨hp, a3, a4, a5, a6, a7, a8, rfl⟩
    have hq : q ∈ (List.range L.length).zip L := by rw [ez]; simp
    have h1 : q.1 < W.sts.length := by have := List.mem_range.mp (zip_mem_l hq); omega
    have h2 := hb _ (zip_mem_r hq)
    obtain ⟨s, hs, ms⟩ := st_of h1
    obtain ⟨s', hs', ms'⟩ := st_of h2
    have oks := hW.ok s ms
    have oks' := hS.ok s' ms'
    unfold nD
    walk_at "ev"
    rw [chan_2]
    walk_at "ev"
    rw [List.getElem?_map, hs]
    walk_at "ev"
    rw [chan_2]
    walk_at "ev"
    rw [List.getElem?_map, hs']
    walk_at "ev"
    unfold staD
    walk_at "ev"
    rw [pairs_map]
    refine for_map (fun p st => (∀ z ∈ p, Cor L z.1 z.2) ∧ ∃ a5 a6 a7 a8, st = ⟨[.sh W.d, .sh S.d, .sh (.tup (L.map nD)), .sh (nD q.1), .sh (nD q.2), vS a5, vS a6, vS a7, vS a8], []⟩) ⟨by simp, a5, a6, a7, a8, rfl⟩ (fun _ _ _ _ _ => rfl) ?_ ?_
    · rintro p2 z post2 _ ez2 ⟨hp2, a5, a6, a7, a8, rfl⟩
      have hz : z ∈ s.zip s' := by rw [ez2]; simp
      have oke := oks.ok z.1 (zip_mem_l hz)
      have oke' := oks'.ok z.2 (zip_mem_r hz)
      walk_at "ev"
      unfold entD
      walk_at "ev"
      rw [pairs_map]
      refine for_map (fun p st => (∀ q ∈ p, ∀ u, q.1 = some u → q.2 = L[u]?) ∧ ∃ a7 a8, st = ⟨[.sh W.d, .sh S.d, .sh (.tup (L.map nD)), .sh (nD q.1), .sh (nD q.2), .sh (entD z.1), .sh (entD z.2), vS a7, vS a8], []⟩) ⟨by simp, a7, a8, rfl⟩ (fun _ _ _ _ _ => rfl) ?_ ?_
      · rintro p3 z3 post3 _ ez3 ⟨hp3, a7, a8, rfl⟩
        have hz3 : z3 ∈ z.1.zip z.2 := by rw [ez3]; simp
        have ext : (∀ u, z3.1 = some u → z3.2 = L[u]?) → ∀ y ∈ p3 ++ [z3], ∀ u, y.1 = some u → y.2 = L[u]? := by
          intro h y hy
          rcases List.mem_append.mp hy with hy | hy
          · exact hp3 y hy
          · simp only [List.mem_cons, List.not_mem_nil, or_false] at hy
            rw [hy]; exact h
        obtain ⟨x, y⟩ := z3
        cases x with
        | none =>
          walk_at "ev"
          exact ⟨ext (fun u h => nomatch h), some _, some _, rfl⟩
        | some u =>
          have hu : u < L.length := by rw [hlen]; exact oke.lt u (zip_mem_l hz3)
          have hg : L[u]? = some L[u] := List.getElem?_eq_getElem hu
          rw [oD_s]
          walk_at "ev"
          rw [List.getElem?_map, hg]
          walk_at "ev"
          refine ⟨okE_int 60 _, iteP_split (fun hc => ?_) fun hc => ?_⟩
          · have hc : ¬ y = some L[u] := by rw [eq_fit2] at hc; simpa using hc
            walk_at "ev"
            exact ⟨false, rfl, iff_of_false (by decide) fun h => hc (by rw [← hg]; exact h q hq s s' hs hs' z hz _ hz3 u rfl)⟩
          · have hc : y = some L[u] := by rw [eq_fit2] at hc; simpa using hc
            walk_at "ev"
            exact ⟨ext (fun v h => by cases h; rw [hg]; exact hc), some _, some _, rfl⟩
      · rintro _ ⟨hp3, a7, a8, rfl⟩
        walk_at "ev"
        refine ⟨fun y hy => ?_, some _, some _, a7, a8, rfl⟩
        rcases List.mem_append.mp hy with hy | hy
        · exact hp2 y hy
        · simp only [List.mem_cons, List.not_mem_nil, or_false] at hy
          rw [hy]; exact hp3
    · rintro _ ⟨hp2, a5, a6, a7, a8, rfl⟩
      walk_at "ev"
      refine ⟨fun y hy t t' ht ht' => ?_, some _, some _, a5, a6, a7, a8, rfl⟩
      rcases List.mem_append.mp hy with hy | hy
      · exact hp y hy t t' ht ht'
      · simp only [List.mem_cons, List.not_mem_nil, or_false] at hy
        subst hy
        rw [hs] at ht
        rw [hs'] at ht'
        cases ht; cases ht'
        exact hp2
  · rintro _ ⟨hp, a3, a4, a5, a6, a7, a8, rfl⟩
    walk_at "ev"
    exact ⟨true, rfl, iff_of_true rfl hp⟩
end
end Py
set_option maxHeartbeats 4000000
/-! A weaker channel. -/
namespace Py
open PySem PySem.Spec PyProof.Rows L2
local macro_rules | `(tactic| walk_at "ev") => `(tactic| simp -implicitDefEqProofs -dsimp only [nrm_some, ↓kP_mk, ↓kT_mk, ↓kR_mk, ↓kRet_mk, ↓Opt_some, Opt_some, Opt_none, ↓E_loc, ↓E_cst, ↓E_tup, ↓E_lst, ↓E_bin, ↓E_cmp, ↓E_idx, ↓E_chn, ↓E_not, ↓E_and, ↓E_or, ↓E_ite, ↓E_neg, ↓E_callC, ↓E_callO, ↓E_slc, ↓E_rev, ↓E_dnew, ↓E_isi, ↓E_mth, ↓E_mut, ↓E_lc, ↓E_sset, ↓E_lrg, ↓E_trg, ↓E_prm', il_cst, in_cst, il_fld, in_fld, il_nop, il_tup, in_tup, il_lst, in_lst, il_dic, in_dic, il_bin, in_bin, il_neg, in_neg, il_not, in_not, il_cmp, in_cmp, il_chn, in_chn, il_and, in_and, il_or, in_or, il_ite, in_ite, il_call, in_call, il_ocall, in_ocall, il_make, in_make, il_prm, in_prm, il_isi, in_isi, il_idx, in_idx, il_slc, in_slc, il_rev, in_rev, il_mth, in_mth, il_mut, in_mut, il_lc, in_lc, in_loc, ns_len, ns_sum, ns_min, ns_max, ns_min2, ns_max2, ns_sorted, ns_all, ns_any, ns_list, ns_tuple, ns_dict, ns_int, ns_abs, ns_repr, ns_lset, ↓pt_nop, ↓pt_e', ↓arg_loc, ↓arg_ne, ↓A2_q, ↓L_nil, ↓L_cons, ↓Ar_nil, ↓Ar_cons, ↓CA_nil, ↓CA_cons, ↓ca_val, ↓ca_keep, ↓ca_lend, ↓I_nil, ↓I_one, ↓src_val, ↓src_rng1, ↓src_rng2, ↓src_enm, ↓src_zip, ↓src_zips, ↓S_asg, ↓S_asgT, ↓S_par, ↓P_nil, ↓P_cons, ↓S_seti, ↓S_augi, ↓S_aug, ↓S_exp, ↓S_ite, ↓S_for, ↓S_retL, ↓S_ret, ↓S_retN, ↓S_brk, ↓S_cnt, ↓S_pas, ↓Ss_nil, ↓Ss_one, ↓Ss_cons, ↓locK_sh, ↓locK_ow, ↓blK_bl, ↓intK_int, ↓argK_sh, ↓argK_ow, ↓argK_io, ↓keepK_val, ↓keepK_pl, ↓lendK_val, ↓lendK_pl, ↓srcK_val, ↓srcK_pl, ↓shK_sh, ↓retK_ow, ↓retK_sh, ↓seqK_nx, ↓seqK_bk, ↓seqK_ct, ↓seqK_rt, ↓endK_rt, ↓endK_nx, ↓turnK_nx, ↓turnK_ct, ↓turnK_bk, ↓turnK_rt, set_mk, at_mk, getD0, getDs, dat_sh, dat_ow, dat_io, own_sh, own_ow, own_io, own_no, upd_ow, upd_io, avdat_val, avdat_pl, vS_s, vS_n, oS_s, oS_n, putOk_vS, putOk_oS, slen, putOk_no, putOk_sh, putOk_ow, okE_int, okE_bl, okE_non, eq_int, eq_bl, Int.zero_add, frS_t, frS_f, ↓putO_eq, ↓asg_nm, asg_tup, asg_lst, putL_nil, ↓putL_cons, putF_nil, ↓putF_cons, wipeT_mk, wipe_nil, wipe_cons, back_nil, back_cons, shO_vS, shO_sh, shO_no, shO_ow, dats_nil, ↓dats_cons, io_nil, io_skip, io_new, ioK_ow, ioK_io, io_pl, outs_nil, ↓outs_t, outs_f, par_t, par_f, par_nil, b_add, b_sub, b_addT, b_addS, b_addL, b_mul, b_mod, b_div, b_pow, b_mulL, b_mulT, r_lst, r_tup, r_str, p_lenS, p_lstS, i_str, l_str, m_ins, m_app, m_ext, x_str, g_add, c_lt, c_le, c_gt, c_ge, c_ltS, c_leS, c_isB, c_isntB, c_is, c_isnt, isNon_oD, isNone_s, isNone_n, isNon_non, isNon_int, isNon_bl, isNon_str, isNon_tup, isNon_lst, noO_oD, okE_oD, c_eq, c_ne, c_in, c_notin, x_lst, x_tup, p_lenL, p_lenT, p_tupL, p_tupT, p_lstL, p_lstT, p_lstF, k_lst, k_str, k_tup, i_lst, i_tup, l_fz, l_lst, l_tup, t_nil, ↓t_cons, tyOf, at_nat, at_lit, ↓fn_q, ↓Opt_iteN, Opt_iteN, Opt_map, List.replicate, List.cons_append, List.nil_append, List.getElem?_cons_zero, List.getElem?_cons_succ, List.set_cons_zero, List.set_cons_succ, ↓iteP_t, ↓iteP_f, iteP_t, iteP_f, ↓reduceIte, Bool.false_eq_true, true_and, and_true, Bool.not_true, Bool.not_false, Bool.and_false, Bool.and_true, Bool.true_and, Bool.false_and, decide_true, decide_false, decide_eq_true_eq, List.any_cons, List.any_nil, Bool.or_false, Bool.or_true, Bool.true_or, Bool.false_or, id, avPls, frN, List.length_cons, List.length_nil, Nat.reduceAdd, Nat.reduceLeDiff, Nat.reduceLT, Int.reduceLE, Int.reduceLT, Int.reduceNeg, Int.reducePow, Int.reduceAdd, Int.reduceMul, Int.reduceSub, Nat.reducePow, Int.reduceToNat, nabs_lit, Int.natAbs_natCast, Int.reduceNe, Int.reduceEq, Nat.reduceMul, Nat.reduceSub, ne_eq, not_false_eq_true, not_true_eq_false, reduceCtorEq, and_self, Nat.reduceEqDiff, set_nat, set_lit, noO_pen, lim_eq, fmodN, fdivN, List.length_map, List.map_set, eq_lst_nil, chars_eq, noO_ch, eq_ch, keep_bl, keep_int, keep_non, keep_str, Bool.and_eq_true, and_assoc, p_intB, p_intI, noO_int, noO_bl, noO_non, noO_str, List.all_cons, List.all_nil, List.nodup_nil, List.nodup_cons, List.mem_cons, List.not_mem_nil, Pl.loc.injEq, or_false, false_or, or_true, true_or, Nat.le_refl, Nat.zero_le, Int.cast_ofNat_Int])
def spotF (q : Nat × Option Nat) : Option D := if q.2.isSome = true then some (nD q.1) else none
def wChan (c : Chan) (ss : List (List Ent)) : Chan := ⟨c.ins, c.outs, ss⟩
theorem enm_oD (e : Ent) : enmL (e.map oD) = ((List.range e.length).zip e).map fun q => .tup [nD q.1, oD q.2] := by
  unfold enmL
  rw [List.length_map, List.zip, List.map_zipWith]
  generalize List.range e.length = R
  induction R generalizing e with
  | nil => rfl
  | cons r R ih => cases e with
    | nil => rfl
    | cons a e => rw [List.map_cons, List.zipWith_cons_cons, List.zipWith_cons_cons, ih]; rfl
/-- the first possible output of an entry -/
theorem spot_first {e : Ent} (h : ∃ m, some m ∈ e) : ∃ k u, (((List.range e.length).zip e).filterMap spotF)[0]? = some (nD k) ∧ e[k]? = some (some u) := by
  have hne : ((List.range e.length).zip e).filterMap spotF ≠ [] := by
    obtain ⟨m, hm⟩ := h
    obtain ⟨i, hi⟩ := List.mem_iff_getElem?.mp hm
    have hl := (List.getElem?_eq_some_iff.mp hi).1
    intro q
    have := List.filterMap_eq_nil_iff.mp q (i, some m) (List.mem_iff_getElem?.mpr ⟨i, List.getElem?_zip_eq_some.mpr ⟨List.getElem?_range hl, hi⟩⟩)
    have h2 : spotF (i, some m) = some (nD i) := rfl
    rw [h2] at this
    cases this
  cases q : ((List.range e.length).zip e).filterMap spotF with
  | nil => exact absurd q hne
  | cons d r =>
    have hd : d ∈ ((List.range e.length).zip e).filterMap spotF := by rw [q]; exact List.mem_cons_self ..
    obtain ⟨⟨k, o⟩, hm, he⟩ := List.mem_filterMap.mp hd
    cases o with
    | none => cases (show none = some d from he)
    | some u =>
      have he : some (nD k) = some d := he
      cases he
      refine ⟨k, u, rfl, ?_⟩
      obtain ⟨i, hi⟩ := List.mem_iff_getElem?.mp hm
      obtain ⟨h1, h2⟩ := List.getElem?_zip_eq_some.mp hi
      have hl := (List.getElem?_eq_some_iff.mp h1).1
      rw [List.length_range] at hl
      rw [List.getElem?_range hl] at h1
      cases h1
      exact h2
section
variable {T : Tab} {F : Nat} {dfs : Nat → Option Dfn}
theorem l_weaker_ok [HasD T dfs 1 d_l_spread false] [HasD T dfs 2 d_l_take false] [HasD T dfs 274 d_l_weaker false] {k : Nat} (hk : 3 ≤ k) (p : Pen) (c : Chan) (hc : c.Ok) (x : Nat) (hx : c.sts.length + x ≤ 4) (hp : p.at_ ≤ 1000000) :
    Opt (Phi T F dfs k 274 [p.d, c.d, .int x] []) fun r => ∃ (ss : List (List Ent)) (L : List Nat) (p' : Pen), r = ⟨.tup [(wChan c ss).d, .tup (L.map nD)], false, [p'.d], []⟩ ∧ (wChan c ss).Ok ∧ L.length = ss.length ∧ (∀ v ∈ L, v < c.sts.length) ∧ p'.at_ ≤ p.at_ + 200 := by
  have hlo := hc.lo
  have hhi := hc.hi
  refine Phi_q (by omega) fun k e => ?_
  subst e
  unfold d_l_weaker b_l_weaker
  dsimp only
  walk_at "ev"
  rw [chan_2]
  walk_at "ev"
  refine ⟨by omega, by omega, ?_⟩
  refine ⟨by omega, by omega, lcLp_inv (fun pre ys st => ∃ (es : List Nat) (p' : Pen), ys = es.map nD ∧ st = ⟨[.io p'.d, .sh c.d, .sh (.int x), .ow (.lst []), .no, .no, .no, .no, .no, .no, .no, .no, .no, .no, .no], []⟩ ∧ es.length = pre.length ∧ (∀ e ∈ es, e < c.sts.length) ∧ p'.at_ ≤ p.at_ + pre.length) rfl ⟨[], p, rfl, rfl, rfl, by simp, by simp⟩ (fun _ _ _ _ => rfl) ?_ ?_⟩
  · rintro pre _ post _ _ e ⟨es, p1, rfl, rfl, hel, he, hp1⟩
    obtain ⟨rfl, hk⟩ := rngL_split e
    walk_at "ev"
    rw [chan_2]
    walk_at "ev"
    refine Opt_mono (l_take_ok (by omega) p1 c.sts.length (by omega) (by omega) (by omega)) ?_
    rintro _ ⟨x, p2, rfl, hx, hp2⟩
    walk_at "ev"
    refine ⟨es ++ [x], p2, by rw [List.map_append]; rfl, rfl, by simp [hel], fun e h => ?_, by simp only [List.length_append, List.length_cons, List.length_nil]; omega⟩
    rcases List.mem_append.mp h with h | h
    · exact he e h
    · simp only [List.mem_cons, List.not_mem_nil, or_false] at h
      rw [h]; exact hx
  · rintro _ e ⟨es, p1, rfl, hst, hel, he, hp1⟩
    rw [rngL_ln] at hel hp1
    rw [hst]
    have e0 : rngL 0 (c.sts.length : Int) ++ es.map nD = ((List.range c.sts.length) ++ es).map nD := by rw [rng_nD, List.map_append]
    walk_at "ev"
    rw [e0]
    have hPl : ((List.range c.sts.length) ++ es).length = c.sts.length + x := by rw [List.length_append, List.length_range]; omega
    have hPm : ∀ x, x ∈ (List.range c.sts.length) ++ es ↔ x < c.sts.length := by
      intro x
      rw [List.mem_append, List.mem_range]
      exact ⟨fun h => h.elim id (he x), .inl⟩
    generalize (List.range c.sts.length) ++ es = PL at hPl hPm
    refine ⟨by rw [rngL_ln]; omega, for_map (fun q st => ∃ (L : List Nat) (p' : Pen) (a4 : Option D), st = ⟨[.io p'.d, .sh c.d, .sh (.int x), .ow (.lst (L.map nD)), vS a4, .no, .no, .no, .no, .no, .no, .no, .no, .no, .no], []⟩ ∧ L.length = q.length ∧ (∀ x, x ∈ L ↔ x ∈ q) ∧ p'.at_ ≤ p1.at_ + q.length) ⟨[], p1, none, rfl, rfl, by simp, by simp⟩ (fun _ _ _ _ _ => rfl) ?_ ?_⟩
    · rintro q a post _ ez ⟨L, p2, a4, rfl, hL, hm, hp2⟩
      have hql : q.length < 4 := by
        have : q.length < PL.length := by rw [ez]; simp
        omega
      unfold nD
      walk_at "ev"
      rw [show ((L.length : Int) + 1) = ((L.length + 1 : Nat) : Int) by omega]
      refine Opt_mono (l_take_ok (by omega) p2 (L.length + 1) (by omega) (by omega) (by omega)) ?_
      rintro _ ⟨x, p3, rfl, hx, hp3⟩
      walk_at "ev"
      refine ⟨by omega, by omega, by omega, L.take x ++ [a] ++ L.drop x, p3, some (nD a), ?_, ?_, fun y => ?_, by simp only [List.length_append, List.length_cons, List.length_nil]; omega⟩
      · rw [Int.toNat_natCast, List.map_append, List.map_append, List.map_take, List.map_drop]; rfl
      · simp only [List.length_append, List.length_cons, List.length_nil, List.length_take, List.length_drop]; omega
      · have e1 : y ∈ L.take x ++ L.drop x ↔ y ∈ L := by rw [List.take_append_drop]
        rw [List.mem_append] at e1
        rw [List.mem_append, List.mem_append, List.mem_append, ← hm y, ← e1]
        exact ⟨fun h => h.elim (fun h => h.elim (fun h => .inl (.inl h)) .inr) fun h => .inl (.inr h), fun h => h.elim (fun h => h.elim (fun h => .inl (.inl h)) .inr) fun h => .inl (.inr h)⟩
    · rintro _ ⟨L, p2, a4, rfl, hL, hm, hp2⟩
      have hL4 : L.length ≤ 4 := by omega
      have hL1 : c.sts.length ≤ L.length := by omega
      have hmL : ∀ x, x ∈ L ↔ x < c.sts.length := fun x => (hm x).trans (hPm x)
      have h4i := hc.ai.hi
      have h4o := hc.ao.hi
      clear hPl hPm e0
      walk_at "ev"
      refine for_map (fun q st => ∃ (ss : List (List Ent)) (p' : Pen) (sl : Slot) (a4 a6 a8 a10 a12 : Option D) (v7 v9 v11 : Option D), (sl = Slot.ow (.lst (L.map nD)) ∨ sl = Slot.sh (.lst (L.map nD))) ∧ st = ⟨[.io p'.d, .sh c.d, .sh (.int x), sl, vS a4, .ow (.lst (ss.map staD)), vS a6, oS v7, vS a8, oS v9, vS a10, oS v11, vS a12, .no, .no], []⟩ ∧ ss.length = q.length ∧ (∀ s ∈ ss, StaOk s c.ins.cps.size c.outs.cps.size L.length) ∧ p'.at_ ≤ p2.at_ + 32 * q.length) ⟨[], p2, _, a4, none, none, none, none, none, none, none, .inl rfl, rfl, rfl, by simp, by simp⟩ ?_ ?_ ?_
      · rintro q post st _ ⟨ss, p3, sl, a4, a6, a8, a10, a12, v7, v9, v11, hsl, rfl, _⟩
        rcases hsl with rfl | rfl
        · exact chk_some rfl rfl
        · exact chk_sh rfl
      · rintro q a post _ ez ⟨ss, p3, sl, a4, a6, a8, a10, a12, v7, v9, v11, hsl, rfl, hss, hso, hp3⟩
        have ha : a < c.sts.length := (hmL a).mp (by rw [ez]; simp)
        have hql : q.length < 4 := by
          have : q.length < L.length := by rw [ez]; simp
          omega
        obtain ⟨s, hs, ms⟩ := st_of ha
        have ok := hc.ok s ms
        unfold nD
        walk_at "ev"
        rw [chan_2]
        walk_at "ev"
        rw [List.getElem?_map, hs]
        walk_at "ev"
        unfold staD
        walk_at "ev"
        have hsl4 := ok.len
        refine for_map (fun q2 st => ∃ (es : List Ent) (p' : Pen) (sl : Slot) (a8 a10 a12 : Option D) (v9 v11 : Option D), (sl = Slot.ow (.lst (L.map nD)) ∨ sl = Slot.sh (.lst (L.map nD))) ∧ st = ⟨[.io p'.d, .sh c.d, .sh (.int x), sl, vS a4, .ow (.lst (ss.map staD)), .sh (nD a), .ow (.lst (es.map entD)), vS a8, oS v9, vS a10, oS v11, vS a12, .no, .no], []⟩ ∧ es.length = q2.length ∧ (∀ e ∈ es, EntOk e c.outs.cps.size L.length) ∧ p'.at_ ≤ p3.at_ + 8 * q2.length) ⟨[], p3, sl, a8, a10, a12, v9, v11, hsl, rfl, rfl, by simp, by simp⟩ (fun _ _ _ _ _ => rfl) ?_ ?_
        · rintro q2 en post2 _ ez2 ⟨es, p4, sl, a8, a10, a12, v9, v11, hsl, rfl, hes, heo, hp4⟩
          have hen : en ∈ s := by rw [ez2]; simp
          have oke := ok.ok en hen
          have hq2 : q2.length < 4 := by
            have : q2.length < s.length := by rw [ez2]; simp
            omega
          have hel4 := oke.len
          walk_at "ev"
          unfold entD
          walk_at "ev"
          refine for_map (fun q3 st => ∃ (row : Ent) (p' : Pen) (sl : Slot) (a10 : Option D) (v11 : Option D), (sl = Slot.ow (.lst (L.map nD)) ∨ sl = Slot.sh (.lst (L.map nD))) ∧ st = ⟨[.io p'.d, .sh c.d, .sh (.int x), sl, vS a4, .ow (.lst (ss.map staD)), .sh (nD a), .ow (.lst (es.map entD)), .sh (entD en), .ow (.lst (row.map oD)), vS a10, oS v11, vS a12, .no, .no], []⟩ ∧ row.length = q3.length ∧ (∀ m, some m ∈ row → m < L.length) ∧ p'.at_ ≤ p4.at_ + 2 * q3.length) ⟨[], p4, sl, a10, v11, hsl, rfl, rfl, by simp, by simp⟩ (fun _ _ _ _ _ => rfl) ?_ ?_
          · rintro q3 y post3 _ ez3 ⟨row, p5, sl, a10, v11, hsl, rfl, hrlen, hrl, hp5⟩
            have hq3 : q3.length < 4 := by
              have : q3.length < en.length := by rw [ez3]; simp
              omega
            have hfl := fits_len L y
            have step : ∀ (st0 : Stt) (K : List D → Stt → Prop), st0 = ⟨[.io p5.d, .sh c.d, .sh (.int x), .sh (.lst (L.map nD)), vS a4, .ow (.lst (ss.map staD)), .sh (nD a), .ow (.lst (es.map entD)), .sh (entD en), .ow (.lst (row.map oD)), .sh (oD y), oS v11, .no, .no, .no], []⟩ → (∀ e, wipeT [12, 13] e = st0 → K ((fits L y).map nD) e) → Opt (lcLp (fun x en => asgTg (wipeT [12, 13] en) x (.tp [12, 13])) (fun en => evIfs T (Phi T F dfs k) [.cmp .Eq (.loc 13) (.loc 10)] en) (fun en => evE T (Phi T F dfs k) (.loc 12) en) none (enmL (L.map nD)) st0) (kP K) := by
              rintro st0 K rfl hK
              rw [enm_nat]
              have e1 : ((List.range L.length).zip L).filterMap (fun q => (fitF y q).map nD) = (fits L y).map nD := by
                unfold fits
                rw [List.map_filterMap]
              refine lcLp_mapM (fun q => (fitF y q).map nD) rfl (fun _ _ => rfl) (fun q hq => ?_) fun st hst => ?_
              · unfold nD
                walk_at "ev"
                rw [eq_fit]
                unfold fitF
                by_cases h : some q.2 = y
                · rw [decT h, if_pos h]
                  walk_at "ev"
                  try (first | rfl | exact ⟨rfl, rfl⟩)
                · rw [decF h, if_neg h]
                  walk_at "ev"
                  try (first | rfl | exact ⟨rfl, rfl⟩)
              · rw [e1]
                exact hK st hst
            rcases hsl with rfl | rfl
            all_goals
              walk_at "ev"
              refine step _ _ rfl fun st hst => ?_
              rw [hst]
              have fin : ∀ (o : Option Nat) (p6 : Pen), (∀ m, o = some m → m < L.length) → p6.at_ ≤ p5.at_ + 2 → ∃ (row' : Ent) (p' : Pen) (sl : Slot) (a10 : Option D) (v11 : Option D), (sl = Slot.ow (.lst (L.map nD)) ∨ sl = Slot.sh (.lst (L.map nD))) ∧ (⟨[.io p6.d, .sh c.d, .sh (.int x), .sh (.lst (L.map nD)), vS a4, .ow (.lst (ss.map staD)), .sh (nD a), .ow (.lst (es.map entD)), .sh (entD en), .ow (.lst (row.map oD ++ [oD o])), .sh (oD y), .ow (.lst ((fits L y).map nD)), vS a12, .no, .no], []⟩ : Stt) = ⟨[.io p'.d, .sh c.d, .sh (.int x), sl, vS a4, .ow (.lst (ss.map staD)), .sh (nD a), .ow (.lst (es.map entD)), .sh (entD en), .ow (.lst (row'.map oD)), vS a10, oS v11, vS a12, .no, .no], []⟩ ∧ row'.length = (q3 ++ [y]).length ∧ (∀ m, some m ∈ row' → m < L.length) ∧ p'.at_ ≤ p4.at_ + 2 * (q3 ++ [y]).length := by
                intro o p6 ho hp6
                refine ⟨row ++ [o], p6, _, some _, some _, .inr rfl, by rw [List.map_append]; rfl, by simp [hrlen], fun m hm => ?_, by simp only [List.length_append, List.length_cons, List.length_nil]; omega⟩
                rcases List.mem_append.mp hm with hm | hm
                · exact hrl m hm
                · simp only [List.mem_cons, List.not_mem_nil, or_false] at hm
                  exact ho m hm.symm
              walk_at "ev"
              refine ⟨by rw [okE_lst', all_map (f := nD) fun o _ => okE_int 59 o], rfl, iteP_split (fun hc1 => ?_) fun hc1 => ?_⟩
              · walk_at "ev"
                exact ⟨by omega, fin none p5 (fun m h => by cases h) (by omega)⟩
              · have hpos : 0 < (fits L y).length := by
                  cases q : fits L y with
                  | nil => rw [q] at hc1; cases hc1
                  | cons _ _ => simp
                walk_at "ev"
                refine Opt_mono (l_take_ok (by omega) p5 4 (by omega) (by omega) (by omega)) ?_
                rintro _ ⟨x1, p6, rfl, hx1, hp6⟩
                walk_at "ev"
                refine iteP_split (fun hc2 => ?_) fun hc2 => ?_
                · walk_at "ev"
                  exact ⟨by omega, fin none p6 (fun m h => by cases h) (by omega)⟩
                · walk_at "ev"
                  refine Opt_mono (l_take_ok (by omega) p6 (fits L y).length hpos (by omega) (by omega)) ?_
                  rintro _ ⟨x2, p7, rfl, hx2, hp7⟩
                  obtain ⟨w, hg⟩ : ∃ w, (fits L y)[x2]? = some w := ⟨_, List.getElem?_eq_getElem hx2⟩
                  have hlt := fits_lt (List.mem_of_getElem? hg)
                  walk_at "ev"
                  rw [List.getElem?_map, hg]
                  walk_at "ev"
                  exact ⟨by omega, fin (some w) p7 (fun m h => by cases h; exact hlt) (by omega)⟩
          · rintro _ ⟨row, p5, sl, a10, v11, hsl, rfl, hrlen, hrl, hp5⟩
            have hel5 : en.length ≤ 4 := by rw [hel4]; exact hc.ao.hi
            walk_at "ev"
            refine lcLp_map keepD rfl (chk_wipeQ rfl rfl rfl) (fun x hx => ?_) fun st he => ?_
            · obtain ⟨o, _, rfl⟩ := List.mem_map.mp hx
              walk_at "ev"
              cases o <;> (walk_at "ev"; first | rfl | exact ⟨rfl, rfl⟩)
            · rw [he, keep_map]
              walk_at "ev"
              refine ⟨?_, rfl, ?_⟩
              · rw [okE_lst', all_map fun o _ => okE_oD 59 o]
              · refine iteP_join (fun r => ∃ (row' : Ent) (sl' : Slot) (a12 : Option D), (sl' = Slot.ow (.lst (L.map nD)) ∨ sl' = Slot.sh (.lst (L.map nD))) ∧ r = (Fl.nx, (⟨[.io p5.d, .sh c.d, .sh (.int x), sl', vS a4, .ow (.lst (ss.map staD)), .sh (nD a), .ow (.lst (es.map entD)), .sh (entD en), .ow (.lst (row'.map oD)), vS a10, oS v11, vS a12, .no, .no], []⟩ : Stt)) ∧ row'.length = en.length ∧ (∀ m, some m ∈ row' → m < L.length) ∧ ∃ m, some m ∈ row') (fun hc1 => ?_) (fun hc1 => ?_) ?_
                · walk_at "ev"
                  obtain ⟨j, u, hj, hu⟩ := spot_first oke.ex
                  have hju : u ∈ L := (hmL u).mpr (oke.lt u (List.mem_of_getElem? hu))
                  have hjl := (List.getElem?_eq_some_iff.mp hu).1
                  unfold entD
                  walk_at "ev"
                  rw [enm_oD]
                  refine lcLp_mapM spotF rfl (fun _ _ => rfl) (fun q hq => ?_) fun st hst => ?_
                  · obtain ⟨i, o⟩ := q
                    unfold nD spotF
                    cases o <;> (walk_at "ev"; first | rfl | exact ⟨rfl, rfl⟩)
                  · rw [hst]
                    walk_at "ev"
                    rw [hj]
                    unfold nD
                    walk_at "ev"
                    rcases hsl with rfl | rfl
                    · walk_at "ev"
                      rw [List.getElem?_map, hu]
                      walk_at "ev"
                      rw [show mthF .index (.lst (L.map nD)) [oD (some u)] = some (.int (ix u L : Nat), false) from idx_map (h := nD) eqD_nD (fun a => okE_int 59 a) (fun a => okE_int 60 a) hju]
                      walk_at "ev"
                      have hjr : j < row.length := by omega
                      have hil := ix_lt hju
                      refine ⟨hjr, row.set j (some (ix u L)), Slot.ow (.lst (L.map nD)), some _, .inl rfl, by rw [List.map_set]; rfl, by rw [List.length_set]; exact hrlen, fun m hm => ?_, ix u L, List.mem_iff_getElem?.mpr ⟨j, List.getElem?_set_self hjr⟩⟩
                      rcases List.mem_or_eq_of_mem_set hm with h | h
                      · exact hrl m h
                      · cases h; exact hil
                    · walk_at "ev"
                      rw [List.getElem?_map, hu]
                      walk_at "ev"
                      rw [show mthF .index (.lst (L.map nD)) [oD (some u)] = some (.int (ix u L : Nat), false) from idx_map (h := nD) eqD_nD (fun a => okE_int 59 a) (fun a => okE_int 60 a) hju]
                      walk_at "ev"
                      have hjr : j < row.length := by omega
                      have hil := ix_lt hju
                      refine ⟨hjr, row.set j (some (ix u L)), Slot.sh (.lst (L.map nD)), some _, .inr rfl, by rw [List.map_set]; rfl, by rw [List.length_set]; exact hrlen, fun m hm => ?_, ix u L, List.mem_iff_getElem?.mpr ⟨j, List.getElem?_set_self hjr⟩⟩
                      rcases List.mem_or_eq_of_mem_set hm with h | h
                      · exact hrl m h
                      · cases h; exact hil
                · walk_at "ev"
                  refine ⟨row, sl, a12, hsl, rfl, hrlen, hrl, ?_⟩
                  cases q : row.filter Option.isSome with
                  | nil => rw [q] at hc1; cases hc1
                  | cons o r =>
                    have := List.mem_filter.mp (show o ∈ row.filter Option.isSome by rw [q]; exact List.mem_cons_self ..)
                    cases o with
                    | none => cases this.2
                    | some m => exact ⟨m, this.1⟩
                · rintro _ ⟨row', sl', a12, hsl', rfl, hrl', hrm', hex'⟩
                  walk_at "ev"
                  refine ⟨by omega, es ++ [row'], p5, sl', some (entD en), a10, a12, some (.lst (row'.map oD)), v11, hsl', by rw [List.map_append]; rfl, by simp [hes], fun e h => ?_, by simp only [List.length_append, List.length_cons, List.length_nil]; omega⟩
                  rcases List.mem_append.mp h with h | h
                  · exact heo e h
                  · simp only [List.mem_cons, List.not_mem_nil, or_false] at h
                    rw [h]; exact ⟨by omega, hrm', hex'⟩
        · rintro _ ⟨es, p4, sl, a8, a10, a12, v9, v11, hsl, rfl, hes, heo, hp4⟩
          walk_at "ev"
          refine ⟨by omega, ss ++ [es], p4, sl, a4, some (nD a), a8, a10, a12, some (.lst (es.map entD)), v9, v11, hsl, by rw [List.map_append]; rfl, by simp [hss], fun s h => ?_, by simp only [List.length_append, List.length_cons, List.length_nil]; omega⟩
          rcases List.mem_append.mp h with h | h
          · exact hso s h
          · simp only [List.mem_cons, List.not_mem_nil, or_false] at h
            rw [h]; exact ⟨by omega, heo⟩
      · rintro _ ⟨ss, p3, sl, a4, a6, a8, a10, a12, v7, v9, v11, hsl, rfl, hss, hso, hp3⟩
        rcases hsl with rfl | rfl
        all_goals
          walk_at "ev"
          rw [chan_0]
          walk_at "ev"
          rw [chan_1]
          walk_at "ev"
          refine ⟨ss, L, p3, rfl, ⟨hc.ai, hc.ao, by show 1 ≤ ss.length; omega, by show ss.length ≤ 4; omega, fun s h => by show StaOk s c.ins.cps.size c.outs.cps.size ss.length; rw [hss]; exact hso s h⟩, hss.symm, fun v h => (hmL v).mp h, by omega⟩
end
end Py
set_option maxHeartbeats 4000000
/-! The law k60. -/
namespace Py
open PySem PySem.Spec PyProof.Rows L2
instance : HasD theT dfs 18 d_p_is_integer false := ⟨rfl, rfl, rfl, rfl⟩
instance : HasD theT dfs 19 d_p_is_index false := ⟨rfl, rfl, rfl, rfl⟩
instance : HasD theT dfs 271 d_p_corresponds false := ⟨rfl, rfl, rfl, rfl⟩
instance : HasD theT dfs 272 d_p_is_simulation false := ⟨rfl, rfl, rfl, rfl⟩
instance : HasO theT dfs 0 d_l_open := ⟨rfl, rfl, rfl⟩
instance : HasD theT dfs 1 d_l_spread false := ⟨rfl, rfl, rfl, rfl⟩
instance : HasD theT dfs 2 d_l_take false := ⟨rfl, rfl, rfl, rfl⟩
instance : HasD theT dfs 3 d_l_same true := ⟨rfl, rfl, rfl, rfl⟩
instance : HasD theT dfs 4 d_l_draw_alphabet false := ⟨rfl, rfl, rfl, rfl⟩
instance : HasD theT dfs 5 d_l_draw_entry false := ⟨rfl, rfl, rfl, rfl⟩
instance : HasD theT dfs 6 d_l_draw_channel false := ⟨rfl, rfl, rfl, rfl⟩
instance : HasD theT dfs 7 d_l_lying false := ⟨rfl, rfl, rfl, rfl⟩
instance : HasD theT dfs 8 d_l_any_channel false := ⟨rfl, rfl, rfl, rfl⟩
instance : HasD theT dfs 273 d_l_is_simulation false := ⟨rfl, rfl, rfl, rfl⟩
instance : HasD theT dfs 274 d_l_weaker false := ⟨rfl, rfl, rfl, rfl⟩
instance : HasD theT dfs 275 d_l_two_channels false := ⟨rfl, rfl, rfl, rfl⟩
instance : HasD theT dfs 276 d_l_changed_v7 false := ⟨rfl, rfl, rfl, rfl⟩
instance : HasD theT dfs 277 d_l_is_right false := ⟨rfl, rfl, rfl, rfl⟩
instance : HasD theT dfs 278 d_law_k60 false := ⟨rfl, rfl, rfl, rfl⟩
local macro_rules | `(tactic| walk_at "ev") => `(tactic| simp -implicitDefEqProofs -dsimp only [nrm_some, ↓kP_mk, ↓kT_mk, ↓kR_mk, ↓kRet_mk, ↓Opt_some, Opt_some, Opt_none, ↓E_loc, ↓E_cst, ↓E_tup, ↓E_lst, ↓E_bin, ↓E_cmp, ↓E_idx, ↓E_chn, ↓E_not, ↓E_and, ↓E_or, ↓E_ite, ↓E_neg, ↓E_callC, ↓E_callO, ↓E_slc, ↓E_rev, ↓E_dnew, ↓E_isi, ↓E_mth, ↓E_mut, ↓E_lc, ↓E_sset, ↓E_lrg, ↓E_trg, ↓E_prm', il_cst, in_cst, il_fld, in_fld, il_nop, il_tup, in_tup, il_lst, in_lst, il_dic, in_dic, il_bin, in_bin, il_neg, in_neg, il_not, in_not, il_cmp, in_cmp, il_chn, in_chn, il_and, in_and, il_or, in_or, il_ite, in_ite, il_call, in_call, il_ocall, in_ocall, il_make, in_make, il_prm, in_prm, il_isi, in_isi, il_idx, in_idx, il_slc, in_slc, il_rev, in_rev, il_mth, in_mth, il_mut, in_mut, il_lc, in_lc, in_loc, ns_len, ns_sum, ns_min, ns_max, ns_min2, ns_max2, ns_sorted, ns_all, ns_any, ns_list, ns_tuple, ns_dict, ns_int, ns_abs, ns_repr, ns_lset, ↓pt_nop, ↓pt_e', ↓arg_loc, ↓arg_ne, ↓A2_q, ↓L_nil, ↓L_cons, ↓Ar_nil, ↓Ar_cons, ↓CA_nil, ↓CA_cons, ↓ca_val, ↓ca_keep, ↓ca_lend, ↓I_nil, ↓I_one, ↓src_val, ↓src_rng1, ↓src_rng2, ↓src_enm, ↓src_zip, ↓src_zips, ↓S_asg, ↓S_asgT, ↓S_par, ↓P_nil, ↓P_cons, ↓S_seti, ↓S_augi, ↓S_aug, ↓S_exp, ↓S_ite, ↓S_for, ↓S_retL, ↓S_ret, ↓S_retN, ↓S_brk, ↓S_cnt, ↓S_pas, ↓Ss_nil, ↓Ss_one, ↓Ss_cons, ↓locK_sh, ↓locK_ow, ↓blK_bl, ↓intK_int, ↓argK_sh, ↓argK_ow, ↓argK_io, ↓keepK_val, ↓keepK_pl, ↓lendK_val, ↓lendK_pl, ↓srcK_val, ↓srcK_pl, ↓shK_sh, ↓retK_ow, ↓retK_sh, ↓seqK_nx, ↓seqK_bk, ↓seqK_ct, ↓seqK_rt, ↓endK_rt, ↓endK_nx, ↓turnK_nx, ↓turnK_ct, ↓turnK_bk, ↓turnK_rt, set_mk, at_mk, getD0, getDs, dat_sh, dat_ow, dat_io, own_sh, own_ow, own_io, own_no, upd_ow, upd_io, avdat_val, avdat_pl, vS_s, vS_n, oS_s, oS_n, putOk_vS, putOk_oS, slen, putOk_no, putOk_sh, putOk_ow, okE_int, okE_bl, okE_non, eq_int, eq_bl, Int.zero_add, frS_t, frS_f, ↓putO_eq, ↓asg_nm, asg_tup, asg_lst, putL_nil, ↓putL_cons, putF_nil, ↓putF_cons, wipeT_mk, wipe_nil, wipe_cons, back_nil, back_cons, shO_vS, shO_sh, shO_no, shO_ow, dats_nil, ↓dats_cons, io_nil, io_skip, io_new, ioK_ow, ioK_io, io_pl, outs_nil, ↓outs_t, outs_f, par_t, par_f, par_nil, b_add, b_sub, b_addT, b_addS, b_addL, b_mul, b_mod, b_div, b_pow, b_mulL, b_mulT, r_lst, r_tup, r_str, p_lenS, p_lstS, i_str, l_str, m_ins, m_app, m_ext, x_str, g_add, c_lt, c_le, c_gt, c_ge, c_ltS, c_leS, c_isB, c_isntB, c_is, c_isnt, isNon_oD, isNone_s, isNone_n, isNon_non, isNon_int, isNon_bl, isNon_str, isNon_tup, isNon_lst, noO_oD, okE_oD, c_eq, c_ne, c_in, c_notin, x_lst, x_tup, p_lenL, p_lenT, p_tupL, p_tupT, p_lstL, p_lstT, p_lstF, k_lst, k_str, k_tup, i_lst, i_tup, l_fz, l_lst, l_tup, t_nil, ↓t_cons, tyOf, at_nat, at_lit, ↓fn_q, ↓Opt_iteN, Opt_iteN, Opt_map, List.replicate, List.cons_append, List.nil_append, List.getElem?_cons_zero, List.getElem?_cons_succ, List.set_cons_zero, List.set_cons_succ, ↓iteP_t, ↓iteP_f, iteP_t, iteP_f, ↓reduceIte, Bool.false_eq_true, true_and, and_true, Bool.not_true, Bool.not_false, Bool.and_false, Bool.and_true, Bool.true_and, Bool.false_and, decide_true, decide_false, decide_eq_true_eq, List.any_cons, List.any_nil, Bool.or_false, Bool.or_true, Bool.true_or, Bool.false_or, id, avPls, frN, List.length_cons, List.length_nil, Nat.reduceAdd, Nat.reduceLeDiff, Nat.reduceLT, Int.reduceLE, Int.reduceLT, Int.reduceNeg, Int.reducePow, Int.reduceAdd, Int.reduceMul, Int.reduceSub, Nat.reducePow, Int.reduceToNat, nabs_lit, Int.natAbs_natCast, Int.reduceNe, Int.reduceEq, Nat.reduceMul, Nat.reduceSub, ne_eq, not_false_eq_true, not_true_eq_false, reduceCtorEq, and_self, Nat.reduceEqDiff, set_nat, set_lit, noO_pen, lim_eq, fmodN, fdivN, List.length_map, List.map_set, eq_lst_nil, chars_eq, noO_ch, eq_ch, keep_bl, keep_int, keep_non, keep_str, Bool.and_eq_true, and_assoc, p_intB, p_intI, noO_int, noO_bl, noO_non, noO_str, List.all_cons, List.all_nil, List.nodup_nil, List.nodup_cons, List.mem_cons, List.not_mem_nil, Pl.loc.injEq, or_false, false_or, or_true, true_or, Nat.le_refl, Nat.zero_le, Int.cast_ofNat_Int])
theorem noO_chanN (n : Nat) (c : Chan) : noO (n + 4) c.d = true := by
  unfold Chan.d
  rw [noO_tup, List.all_cons, List.all_cons, List.all_cons, noO_str, noO_str, noO_tup, all_map fun o _ => noO_staD n o]; rfl
/-- what is drawn is small -/
structure Thing (d : D) : Prop where
  ok : okR 7 d = true
  wt : wt d ≤ 250
structure Lite (d : D) : Prop where
  ok : okR 5 d = true
  wt : wt d ≤ 12
theorem wts_le {B : Nat} {xs : List D} (h : ∀ x ∈ xs, wt x ≤ B) : wts xs ≤ xs.length * (B + 2) := by
  have := wts_map (f := fun x : D => x) (B := B) (l := xs) h
  rw [List.map_id'] at this
  exact this
theorem tup_thing {xs : List D} (h : ∀ x ∈ xs, Lite x) (hl : xs.length ≤ 16) : Thing (.tup xs) := by
  refine ⟨?_, ?_⟩
  · show xs.all (okR 6) = true
    rw [List.all_eq_true]
    exact fun x hx => okR_mono 5 6 x (by omega) (h x hx).ok
  · have := wts_le (B := 12) (xs := xs) fun x hx => (h x hx).wt
    show wts xs + 3 ≤ 250
    have : xs.length * (12 + 2) ≤ 16 * 14 := Nat.mul_le_mul_right 14 hl
    omega
theorem lst_thing {xs : List D} (h : ∀ x ∈ xs, Lite x) (hl : xs.length ≤ 16) : Thing (.lst xs) := ⟨(tup_thing h hl).ok, (tup_thing h hl).wt⟩
theorem cutL_mem {α : Type} {xs : List α} {lo hi : Option Int} {x : α} (h : x ∈ cutL xs lo hi) : x ∈ xs := by
  unfold cutL at h
  first | exact List.mem_of_mem_drop (List.mem_of_mem_take h) | exact List.mem_of_mem_take (List.mem_of_mem_drop h)
theorem cutL_le {α : Type} (xs : List α) (lo hi : Option Int) : (cutL xs lo hi).length ≤ xs.length := by
  unfold cutL
  simp only [List.length_take, List.length_drop]
  omega
theorem nD_lite {v : Nat} (h : v < 5) : Lite (nD v) := by
  have : v = 0 ∨ v = 1 ∨ v = 2 ∨ v = 3 ∨ v = 4 := by omega
  rcases this with rfl | rfl | rfl | rfl | rfl <;> exact ⟨rfl, by decide⟩
theorem l_two_channels_ok {F k : Nat} (hk : 10 ≤ k) (p : Pen) (hp : p.at_ ≤ 100000) :
    Opt (Phi theT F dfs k 275 [p.d, .int 4] []) fun r => ∃ (W S : Chan) (L : List Nat) (p' : Pen), r = ⟨.tup [W.d, S.d, .tup (L.map nD)], false, [p'.d], []⟩ ∧ W.Ok ∧ S.Ok ∧ W.ins = S.ins ∧ W.outs = S.outs ∧ L.length = W.sts.length ∧ (∀ v ∈ L, v < S.sts.length) ∧ p'.at_ ≤ p.at_ + 1000 := by
  refine Phi_q (by omega) fun k e => ?_
  subst e
  unfold d_l_two_channels b_l_two_channels
  dsimp only
  walk_at "ev"
  refine Opt_mono (l_any_channel_ok (by omega) p 4 4 4 (by omega) (by omega) (by omega) (by omega) (by omega) (by omega) (by omega)) ?_
  rintro _ ⟨S, p1, rfl, hS, _, hp1, _⟩
  have hlo := hS.lo
  have hhi := hS.hi
  walk_at "ev"
  refine ⟨noO_chan _, ?_⟩
  rw [chan_2]
  walk_at "ev"
  rw [show ((4 : Int) - (S.sts.length : Int) + 1) = ((5 - S.sts.length : Nat) : Int) by omega]
  refine Opt_mono (l_take_ok (by omega) p1 (5 - S.sts.length) (by omega) (by omega) (by omega)) ?_
  rintro _ ⟨x, p2, rfl, hx, hp2⟩
  walk_at "ev"
  refine ⟨noO_chan _, Opt_mono (l_weaker_ok (by omega) p2 S hS x (by omega) (by omega)) ?_⟩
  rintro _ ⟨ss, L, p3, rfl, hW, hL, hb, hp3⟩
  walk_at "ev"
  refine ⟨by rw [noO_tup, List.all_cons, List.all_cons, noO_chanN 35, noO_nDs 38]; rfl, ?_⟩
  refine Opt_mono (l_take_ok (by omega) p3 3 (by omega) (by omega) (by omega)) ?_
  rintro _ ⟨x2, p4, rfl, hx2, hp4⟩
  walk_at "ev"
  refine iteP_split (fun hc => ?_) fun hc => ?_
  · walk_at "ev"
    exact ⟨wChan S ss, S, L, p4, rfl, hW, hS, rfl, rfl, hL, hb, by omega⟩
  · walk_at "ev"
    refine Opt_mono (l_take_ok (by omega) p4 4 (by omega) (by omega) (by omega)) ?_
    rintro _ ⟨x3, p5, rfl, hx3, hp5⟩
    walk_at "ev"
    rw [show (1 + (x3 : Int)) = ((1 + x3 : Nat) : Int) by omega]
    have zi1 := hS.ai.lo
    have zi4 := hS.ai.hi
    have zo1 := hS.ao.lo
    have zo4 := hS.ao.hi
    refine ⟨by omega, by omega, for_rng (fun j st => ∃ (s5 : List (List Ent)) (p' : Pen) (a4 a10 : Option D), st = ⟨[.io p'.d, .sh (.int 4), .sh S.d, .sh (.int x), vS a4, .no, .sh (wChan S ss).d, .sh (.tup (L.map nD)), .sh (.int ((1 + x3 : Nat) : Int)), .ow (.lst (s5.map staD)), vS a10, .no], []⟩ ∧ s5.length = j ∧ (∀ s ∈ s5, StaOk s S.ins.cps.size S.outs.cps.size (1 + x3)) ∧ p'.at_ ≤ p5.at_ + 36 * j) ⟨[], p5, none, none, rfl, rfl, by simp, by omega⟩ ?_ ?_⟩
    · rintro j _ hj ⟨s5, p6, a4, a10, rfl, hl, hs, hp6⟩
      walk_at "ev"
      rw [chan_1]
      walk_at "ev"
      refine ⟨by omega, ?_⟩
      rw [chan_0]
      walk_at "ev"
      refine ⟨by omega, by omega, by omega, lcLp_inv (fun pre ys st => ∃ (es : List Ent) (p' : Pen), ys = es.map entD ∧ st = ⟨[.io p'.d, .sh (.int 4), .sh S.d, .sh (.int x), .sh (.int j), .no, .sh (wChan S ss).d, .sh (.tup (L.map nD)), .sh (.int ((1 + x3 : Nat) : Int)), .ow (.lst (s5.map staD)), .sh (.int (S.outs.cps.size : Nat)), .no], []⟩ ∧ es.length = pre.length ∧ (∀ e ∈ es, EntOk e S.outs.cps.size (1 + x3)) ∧ p'.at_ ≤ p6.at_ + 9 * pre.length) rfl ⟨[], p6, rfl, rfl, rfl, by simp, by simp⟩ (fun _ _ _ _ => rfl) ?_ ?_⟩
      · rintro pre _ post _ _ e ⟨es, p7, rfl, rfl, hel, he, hp7⟩
        obtain ⟨rfl, hk⟩ := rngL_split e
        walk_at "ev"
        refine ⟨by omega, ?_⟩
        refine Opt_mono (l_draw_entry_ok (by omega) p7 S.outs.cps.size (1 + x3) (pre.length % S.outs.cps.size) (by omega) (by omega) (by omega) (by omega) (by omega)) ?_
        rintro _ ⟨en, p8, rfl, hen, hp8⟩
        walk_at "ev"
        refine ⟨noO_entD 39 en, es ++ [en], p8, by rw [List.map_append]; rfl, rfl, by simp [hel], fun e h => ?_, by simp only [List.length_append, List.length_cons, List.length_nil]; omega⟩
        rcases List.mem_append.mp h with h | h
        · exact he e h
        · simp only [List.mem_cons, List.not_mem_nil, or_false] at h
          rw [h]; exact hen
      · rintro _ e ⟨es, p7, rfl, hst, hel, he, hp7⟩
        rw [rngL_ln] at hel hp7
        rw [hst]
        walk_at "ev"
        refine ⟨by omega, s5 ++ [es], p7, some _, some _, by rw [List.map_append]; rfl, by simp [hl], fun s h => ?_, by omega⟩
        rcases List.mem_append.mp h with h | h
        · exact hs s h
        · simp only [List.mem_cons, List.not_mem_nil, or_false] at h
          rw [h]; exact ⟨by omega, he⟩
    · rintro st ⟨s5, p6, a4, a10, hst, hl, hs, hp6⟩
      rw [hst]
      have hl : s5.length = 1 + x3 := by omega
      walk_at "ev"
      rw [chan_0]
      walk_at "ev"
      rw [chan_1]
      walk_at "ev"
      refine ⟨by omega, by omega, lcLp_inv (fun pre ys st => ∃ (es : List Nat) (p' : Pen), ys = es.map nD ∧ st = ⟨[.io p'.d, .sh (.int 4), .sh S.d, .sh (.int x), vS a4, .sh (wChan S s5).d, .sh (wChan S ss).d, .sh (.tup (L.map nD)), .sh (.int ((1 + x3 : Nat) : Int)), .ow (.lst (s5.map staD)), vS a10, .no], []⟩ ∧ es.length = pre.length ∧ (∀ e ∈ es, e < S.sts.length) ∧ p'.at_ ≤ p6.at_ + pre.length) rfl ⟨[], p6, rfl, rfl, rfl, by simp, by simp⟩ (fun _ _ _ _ => rfl) ?_ ?_⟩
      · rintro pre _ post _ _ e ⟨es, p7, rfl, rfl, hel, he, hp7⟩
        obtain ⟨rfl, hk⟩ := rngL_split e
        walk_at "ev"
        rw [chan_2]
        walk_at "ev"
        refine Opt_mono (l_take_ok (by omega) p7 S.sts.length (by omega) (by omega) (by omega)) ?_
        rintro _ ⟨y, p8, rfl, hy, hp8⟩
        walk_at "ev"
        refine ⟨es ++ [y], p8, by rw [List.map_append]; rfl, rfl, by simp [hel], fun e h => ?_, by simp only [List.length_append, List.length_cons, List.length_nil]; omega⟩
        rcases List.mem_append.mp h with h | h
        · exact he e h
        · simp only [List.mem_cons, List.not_mem_nil, or_false] at h
          rw [h]; exact hy
      · rintro _ e ⟨es, p7, rfl, hst, hel, he, hp7⟩
        rw [rngL_ln] at hel hp7
        rw [hst]
        walk_at "ev"
        refine ⟨wChan S s5, S, es, p7, rfl, ⟨hS.ai, hS.ao, by show 1 ≤ s5.length; omega, by show s5.length ≤ 4; omega, fun s h => by show StaOk s S.ins.cps.size S.outs.cps.size s5.length; rw [hl]; exact hs s h⟩, hS, rfl, rfl, by show es.length = s5.length; omega, he, by omega⟩
theorem l_changed_ok {F k : Nat} (hk : 5 ≤ k) (p : Pen) (L : List Nat) (n : Nat) (hL : L.length ≤ 4) (hL1 : 1 ≤ L.length) (hn : n ≤ 4) (hb : ∀ v ∈ L, v < n) (hp : p.at_ ≤ 100000) :
    Opt (Phi theT F dfs k 276 [p.d, .tup (L.map nD), .int n] []) fun r => ∃ (d : D) (p' : Pen), r = ⟨d, false, [p'.d], []⟩ ∧ Thing d ∧ p'.at_ ≤ p.at_ + 3 := by
  have hLi : ∀ d ∈ L.map nD, Lite d := fun d hd => by
    obtain ⟨v, hv, rfl⟩ := List.mem_map.mp hd
    exact nD_lite (by have := hb v hv; omega)
  refine Phi_q (by omega) fun k e => ?_
  subst e
  unfold d_l_changed_v7 b_l_changed_v7
  dsimp only
  walk_at "ev"
  refine Opt_mono (l_take_ok (by omega) p L.length (by omega) (by omega) (by omega)) ?_
  rintro _ ⟨x, p1, rfl, hx, hp1⟩
  walk_at "ev"
  refine Opt_mono (l_take_ok (by omega) p1 6 (by omega) (by omega) (by omega)) ?_
  rintro _ ⟨x2, p2, rfl, hx2, hp2⟩
  walk_at "ev"
  refine iteP_split (fun hc => ?_) fun hc => ?_
  · walk_at "ev"
    have hodd : ∀ d ∈ [D.int n, .int (-1), .non, .bl true, .str "0", .tup [.int 0]] ++ rngL 0 (n : Int), Lite d := by
      intro d hd
      rcases List.mem_append.mp hd with hd | hd
      · simp only [List.mem_cons, List.not_mem_nil, or_false] at hd
        rcases hd with rfl | rfl | rfl | rfl | rfl | rfl
        · exact nD_lite (by omega)
        all_goals exact ⟨by decide +kernel, by decide +kernel⟩
      · rw [rng_nD] at hd
        obtain ⟨v, hv, rfl⟩ := List.mem_map.mp hd
        exact nD_lite (by have := List.mem_range.mp hv; omega)
    have hlen : ([D.int n, .int (-1), .non, .bl true, .str "0", .tup [.int 0]] ++ rngL 0 (n : Int)).length = (rngL 0 (n : Int)).length + 1 + 1 + 1 + 1 + 1 + 1 := by simp
    have hrl : (rngL 0 (n : Int)).length ≤ 4 := by rw [rngL_ln]; omega
    refine ⟨by omega, by omega, by omega, Opt_mono (l_take_ok (by omega) p2 ((rngL 0 (n : Int)).length + 1 + 1 + 1 + 1 + 1 + 1) (by omega) (by omega) (by omega)) ?_⟩
    rintro _ ⟨x3, p3, rfl, hx3, hp3⟩
    rw [← hlen] at hx3
    obtain ⟨d, hd⟩ : ∃ d, ([D.int n, .int (-1), .non, .bl true, .str "0", .tup [.int 0]] ++ rngL 0 (n : Int))[x3]? = some d := ⟨_, List.getElem?_eq_getElem hx3⟩
    have hdl := hodd d (List.mem_of_getElem? hd)
    have hd : (D.int n :: D.int (-1) :: D.non :: D.bl true :: D.str (Str.ofString "0") :: D.tup [D.int 0] :: rngL 0 (n : Int))[x3]? = some d := hd
    clear hodd hlen
    walk_at "ev"
    rw [hd]
    walk_at "ev"
    have c1 := cutL_le (L.map nD) none (some (x : Int))
    have c2 := cutL_le (L.map nD) (some ((x : Int) + 1)) none
    rw [List.length_map] at c1 c2
    refine ⟨by (try simp only [List.length_append, List.length_cons, List.length_nil]); omega, by (try simp only [List.length_append, List.length_cons, List.length_nil]); omega, _, p3, rfl, tup_thing (fun y hy => ?_) (by simp only [List.length_append, List.length_cons, List.length_nil]; omega), by omega⟩
    rcases List.mem_append.mp hy with hy | hy
    · rcases List.mem_append.mp hy with hy | hy
      · exact hLi y (cutL_mem hy)
      · simp only [List.mem_cons, List.not_mem_nil, or_false] at hy
        rw [hy]; exact hdl
    · exact hLi y (cutL_mem hy)
  · walk_at "ev"
    rw [show primX .dict [.lst [.tup [.int 0, .int 0]]] = some (.dic [(.int 0, .int 0)], true) from rfl]
    refine ⟨by omega, ?_⟩
    walk_at "ev"
    refine Opt_mono (l_take_ok (by omega) p2 11 (by omega) (by omega) (by omega)) ?_
    rintro _ ⟨x3, p3, rfl, hx3, hp3⟩
    have hT : ∀ d ∈ [D.non, .lst (L.map nD), .tup (cutL (L.map nD) (some 1) none), .tup (L.map nD ++ [.int 0]), .tup [], .int 5, .str "", .dic [], .lst [.tup (L.map nD)], .tup (L.map nD).reverse, .dic [(.int 0, .int 0)]], Thing d := by
      intro d hd
      simp only [List.mem_cons, List.not_mem_nil, or_false] at hd
      have c2 := cutL_le (L.map nD) (some 1) none
      rw [List.length_map] at c2
      rcases hd with rfl | rfl | rfl | rfl | rfl | rfl | rfl | rfl | rfl | rfl | rfl
      · exact ⟨rfl, by decide⟩
      · exact lst_thing hLi (by rw [List.length_map]; omega)
      · exact tup_thing (fun y hy => hLi y (cutL_mem hy)) (by omega)
      · refine tup_thing (fun y hy => ?_) (by simp; omega)
        rcases List.mem_append.mp hy with hy | hy
        · exact hLi y hy
        · simp only [List.mem_cons, List.not_mem_nil, or_false] at hy
          rw [hy]; exact nD_lite (v := 0) (by omega)
      · exact ⟨rfl, by decide⟩
      · exact ⟨rfl, by decide⟩
      · exact ⟨by decide +kernel, by decide +kernel⟩
      · exact ⟨rfl, by decide⟩
      · have t := tup_thing hLi (by rw [List.length_map]; omega)
        refine ⟨?_, ?_⟩
        · show (okR 6 (.tup (L.map nD)) && true) = true
          have : okR 6 (.tup (L.map nD)) = true := by
            show (L.map nD).all (okR 5) = true
            rw [List.all_eq_true]
            exact fun x hx => (hLi x hx).ok
          rw [this]; rfl
        · have := wts_le (B := 12) (xs := L.map nD) fun x hx => (hLi x hx).wt
          rw [List.length_map] at this
          show wts (L.map nD) + 3 + 2 + 0 + 3 ≤ 250
          omega
      · exact tup_thing (fun y hy => hLi y (List.mem_reverse.mp hy)) (by simp; omega)
      · exact ⟨by decide +kernel, by decide +kernel⟩
    obtain ⟨d, hd⟩ : ∃ d, [D.non, .lst (L.map nD), .tup (cutL (L.map nD) (some 1) none), .tup (L.map nD ++ [.int 0]), .tup [], .int 5, .str "", .dic [], .lst [.tup (L.map nD)], .tup (L.map nD).reverse, .dic [(.int 0, .int 0)]][x3]? = some d := ⟨_, List.getElem?_eq_getElem hx3⟩
    have hdt := hT d (List.mem_of_getElem? hd)
    clear hT
    walk_at "ev"
    rw [hd]
    walk_at "ev"
    exact ⟨d, p3, rfl, hdt, by omega⟩
theorem l_is_right_ok {F k : Nat} (hk : 5 ≤ k) (W S : Chan) (hW : W.Ok) (hS : S.Ok) (hi : W.ins = S.ins) (ho : W.outs = S.outs) (n : Nat) (hn : n ≤ 40) (x : D) (hx : okR (n + 1) x = true) :
    Opt (Phi theT F dfs k 277 [W.d, S.d, x] []) fun r => ∃ w, r = ⟨.bl w, false, [], []⟩ ∧ (w = true ↔ SimD W S x) := by
  refine Phi_q (by omega) fun k e => ?_
  subst e
  unfold d_l_is_right b_l_is_right
  dsimp only
  have no : (∀ xs, x ≠ .tup xs) → ¬ SimD W S x := fun h ⟨L, e, _⟩ => h _ e
  cases x with
  | obj _ => cases hx
  | fz _ => cases hx
  | non => walk_at "ev"; exact ⟨false, rfl, iff_of_false (by decide) (no fun _ h => by cases h)⟩
  | bl _ => walk_at "ev"; exact ⟨false, rfl, iff_of_false (by decide) (no fun _ h => by cases h)⟩
  | int _ => walk_at "ev"; exact ⟨false, rfl, iff_of_false (by decide) (no fun _ h => by cases h)⟩
  | str _ => walk_at "ev"; exact ⟨false, rfl, iff_of_false (by decide) (no fun _ h => by cases h)⟩
  | lst _ => walk_at "ev"; exact ⟨false, rfl, iff_of_false (by decide) (no fun _ h => by cases h)⟩
  | dic _ => walk_at "ev"; exact ⟨false, rfl, iff_of_false (by decide) (no fun _ h => by cases h)⟩
  | tup xs =>
    walk_at "ev"
    rw [chan_2]
    walk_at "ev"
    refine iteP_split (fun hc => ?_) fun hc => ?_
    · walk_at "ev"
      refine ⟨false, rfl, iff_of_false (by decide) fun ⟨L, e, hl, _⟩ => ?_⟩
      cases e
      rw [List.length_map, hl] at hc
      simp at hc
    · have hlen : xs.length = W.sts.length := by
        have : (xs.length : Int) = (W.sts.length : Int) := by simpa using hc
        omega
      walk_at "ev"
      refine for_inv (fun pre st => pre.all (idxB S.sts.length) = true ∧ ∃ a3, st = ⟨[.sh W.d, .sh S.d, .sh (.tup xs), vS a3], []⟩) ⟨rfl, none, rfl⟩ (fun _ _ _ => rfl) ?_ ?_
      · rintro pre y post _ ez ⟨hpre, a3, rfl⟩
        have hy : okR n y = true := List.all_eq_true.mp hx y (by rw [ez]; simp)
        have bad : idxB S.sts.length y = false → ¬ SimD W S (.tup xs) := fun h ⟨L, e, _, hb, _⟩ => by
          cases e
          have := (idxB_map S.sts.length L).mpr hb
          rw [List.all_eq_true] at this
          have := this y (by rw [ez]; simp)
          rw [h] at this; cases this
        have good : idxB S.sts.length y = true → (pre ++ [y]).all (idxB S.sts.length) = true := fun h => by rw [List.all_append, hpre, List.all_cons, h]; rfl
        cases y with
        | obj _ => cases n <;> cases hy
        | fz _ => cases n <;> cases hy
        | int i =>
          walk_at "ev"
          refine iteP_split (fun hc => ?_) fun hc => ?_
          · walk_at "ev"
            rw [chan_2]
            walk_at "ev"
            refine iteP_split (fun hc2 => ?_) fun hc2 => ?_
            · have hc2 : ¬ i < S.sts.length := by simpa using hc2
              walk_at "ev"
              exact ⟨false, rfl, iff_of_false (by decide) (bad (by show (decide (0 ≤ i) && decide (i < S.sts.length)) = false; rw [decF hc2, Bool.and_false]))⟩
            · have hc2 : i < S.sts.length := by simpa using hc2
              walk_at "ev"
              exact ⟨good (by show (decide (0 ≤ i) && decide (i < S.sts.length)) = true; rw [hc, decT hc2]; rfl), some _, rfl⟩
          · walk_at "ev"
            exact ⟨false, rfl, iff_of_false (by decide) (bad (by show (decide (0 ≤ i) && decide (i < S.sts.length)) = false; rw [hc]; rfl))⟩
        | non => walk_at "ev"; exact ⟨false, rfl, iff_of_false (by decide) (bad rfl)⟩
        | bl _ => walk_at "ev"; exact ⟨false, rfl, iff_of_false (by decide) (bad rfl)⟩
        | str _ => walk_at "ev"; exact ⟨false, rfl, iff_of_false (by decide) (bad rfl)⟩
        | tup _ => walk_at "ev"; exact ⟨false, rfl, iff_of_false (by decide) (bad rfl)⟩
        | lst _ => walk_at "ev"; exact ⟨false, rfl, iff_of_false (by decide) (bad rfl)⟩
        | dic _ => walk_at "ev"; exact ⟨false, rfl, iff_of_false (by decide) (bad rfl)⟩
      · rintro _ ⟨hall, a3, rfl⟩
        obtain ⟨L, rfl⟩ := idxB_all hall
        have hb := (idxB_map _ _).mp hall
        rw [List.length_map] at hlen
        walk_at "ev"
        refine ⟨noO_chan _, noO_chan _, noO_nDs 39 L, Opt_mono (l_is_simulation_ok (by omega) W S hW hS hi ho L hlen hb) ?_⟩
        rintro _ ⟨w, rfl, hw⟩
        walk_at "ev"
        exact ⟨w, rfl, hw.trans ⟨fun h => ⟨L, rfl, hlen, hb, h⟩, fun h => (simD_map.mp h).2.2⟩⟩
theorem repr3 {W S : Chan} (hW : W.Ok) (hS : S.Ok) {d : D} (hd : Thing d) : primX .repr [.tup [W.d, S.d, d]] = some (.str (reprD (.tup [W.d, S.d, d])), false) ∧ okR 60 (.tup [W.d, S.d, d]) = true := by
  have h1 : okR 60 (.tup [W.d, S.d, d]) = true := by
    show [W.d, S.d, d].all (okR 59) = true
    rw [List.all_cons, List.all_cons, List.all_cons, okR_of _ _ (okE_chan hW 55), okR_of _ _ (okE_chan hS 55), okR_mono 7 59 d (by omega) hd.ok]; rfl
  have w1 := wt_chan hW
  have w2 := wt_chan hS
  have w3 := hd.wt
  refine ⟨repr_any h1 ?_ ?_, h1⟩
  · show (shw W.d && (shw S.d && (shw d && true))) = true
    rw [shw_wt _ (by omega), shw_wt _ (by omega), shw_wt _ (by omega)]; rfl
  · show wt W.d + 2 + (wt S.d + 2 + (wt d + 2 + 0)) + 3 ≤ lim
    rw [lim_eq]; omega
theorem sim_self {W : Chan} (hW : W.Ok) : SimD W W (.tup ((List.range W.sts.length).map nD)) := by
  refine ⟨_, rfl, List.length_range, fun v hv => List.mem_range.mp hv, fun q hq s s' hs hs' z hz y hy u hu => ?_⟩
  have e1 : q.1 = q.2 := by
    obtain ⟨i, hi⟩ := List.mem_iff_getElem?.mp hq
    obtain ⟨h1, h2⟩ := List.getElem?_zip_eq_some.mp hi
    have hl := (List.getElem?_eq_some_iff.mp h2).1
    rw [List.length_range] at h1 hl
    rw [List.getElem?_range hl] at h1 h2
    cases h1; rw [← Option.some.inj h2]
  rw [← e1, hs] at hs'
  cases hs'
  have e2 : z.1 = z.2 := by
    obtain ⟨i, hi⟩ := List.mem_iff_getElem?.mp hz
    obtain ⟨h1, h2⟩ := List.getElem?_zip_eq_some.mp hi
    rw [h1] at h2; exact Option.some.inj h2
  rw [← e2] at hy
  have e3 : y.1 = y.2 := by
    obtain ⟨i, hi⟩ := List.mem_iff_getElem?.mp hy
    obtain ⟨h1, h2⟩ := List.getElem?_zip_eq_some.mp hi
    rw [h1] at h2; exact Option.some.inj h2
  have hlt := ((hW.ok s (List.mem_of_getElem? hs)).ok z.1 (zip_mem_l hz)).lt u (by rw [← hu]; exact zip_mem_l hy)
  rw [← e3, hu, List.getElem?_range hlt]
abbrev lawS (ns : List Int) (p : Pen) (a2 : Option D) (v3 : Option D) (a4 a5 a6 a7 a8 : Option D) : Stt := ⟨[.sh (.fz (ns.map .int)), .ow p.d, vS a2, oS v3, vS a4, vS a5, vS a6, vS a7, vS a8, .no], []⟩
theorem plain_q {F k : Nat} (hk : 20 ≤ k) (ns : List Int) (hn : ns.length ≤ 63) : Opt (Phi theT F dfs k 278 [.fz (ns.map .int)] []) fun r => r.d = .bl true := by
  refine Phi_q (by omega) fun k e => ?_
  subst e
  unfold d_law_k60 b_law_k60
  dsimp only
  walk_at "ev"
  refine Opt_mono (l_open_ok (by omega) ns hn) ?_
  rintro _ ⟨p0, rfl, hp0⟩
  walk_at "ev"
  refine for_rng (fun j st => ∃ p a2 v3 a4 a5 a6 a7 a8, st = lawS ns p a2 v3 a4 a5 a6 a7 a8 ∧ p.at_ ≤ 2000 * j) ⟨p0, none, none, none, none, none, none, none, rfl, by omega⟩ ?_ ?_
  · rintro j _ hj ⟨p1, a2, v3, a4, a5, a6, a7, a8, rfl, hp1⟩
    have hj6 : j < 6 := by omega
    walk_at "ev"
    refine Opt_mono (l_two_channels_ok (by omega) p1 (by omega)) ?_
    rintro _ ⟨W, S, L, p2, rfl, hW, hS, hi, ho, hL, hb, hp2⟩
    have hWlo := hW.lo
    have hWhi := hW.hi
    have hShi := hS.hi
    walk_at "ev"
    refine ⟨by rw [noO_tup, List.all_cons, List.all_cons, List.all_cons, noO_chanN 35, noO_chanN 35, noO_nDs 38]; rfl, lcLp_inv (fun pre ys st => ∃ p', st = lawS ns p' (some (.int j)) v3 a4 (some W.d) (some S.d) (some (.tup (L.map nD))) a8 ∧ (∀ y ∈ ys, Thing y) ∧ ys.length = pre.length ∧ p'.at_ ≤ p2.at_ + 3 * pre.length) rfl ⟨p2, rfl, by simp, rfl, by simp⟩ (fun _ _ _ _ => rfl) ?_ ?_⟩
    · rintro pre _ post ys _ e ⟨p3, rfl, hy, hyl, hp3⟩
      obtain ⟨rfl, hk⟩ := rngL_split e
      walk_at "ev"
      rw [chan_2]
      walk_at "ev"
      refine ⟨noO_nDs 39 L, Opt_mono (l_changed_ok (by omega) p3 L S.sts.length (by omega) (by omega) hShi hb (by omega)) ?_⟩
      rintro _ ⟨d, p4, rfl, hd, hp4⟩
      walk_at "ev"
      refine ⟨okR_noO 7 40 d (by omega) hd.ok, p4, rfl, fun y h => ?_, by simp [hyl], by simp only [List.length_append, List.length_cons, List.length_nil]; omega⟩
      rcases List.mem_append.mp h with h | h
      · exact hy y h
      · simp only [List.mem_cons, List.not_mem_nil, or_false] at h
        rw [h]; exact hd
    · rintro ys e ⟨p3, hst, hy, hyl, hp3⟩
      rw [rngL_ln] at hyl hp3
      rw [hst]
      walk_at "ev"
      have hthings : ∀ y ∈ D.tup (L.map nD) :: ys, Thing y := fun y h => by
        rcases List.mem_cons.mp h with h | h
        · rw [h]
          refine tup_thing (fun d hd => ?_) (by rw [List.length_map]; omega)
          obtain ⟨v, hv, rfl⟩ := List.mem_map.mp hd
          exact nD_lite (by have := hb v hv; omega)
        · exact hy y h
      refine ⟨by omega, ?_⟩
      generalize hys : D.tup (L.map nD) :: ys = things at hthings
      refine for_inv (fun pre st => ∃ a4 a8, st = lawS ns p3 (some (.int j)) (some (.lst things)) a4 (some W.d) (some S.d) (some (.tup (L.map nD))) a8) ⟨a4, a8, rfl⟩ (fun _ _ ⟨_, _, e⟩ => by subst e; exact chk_some rfl rfl) ?_ ?_
      · rintro pre d post _ ez ⟨a4, a8, rfl⟩
        have hd := hthings d (by rw [ez]; simp)
        obtain ⟨hr1, hr2⟩ := repr3 hW hS hd
        have hno := okR_noO 7 40 d (by omega) hd.ok
        walk_at "ev"
        rw [hr1]
        walk_at "ev"
        refine ⟨noO_chan _, noO_chan _, hno, Opt_mono (p_is_simulation_ok (by omega) W S hW hS hi ho 6 (by omega) d hd.ok) ?_⟩
        rintro _ ⟨w, rfl, hw⟩
        walk_at "ev"
        refine ⟨noO_chan _, noO_chan _, hno, Opt_mono (l_is_right_ok (by omega) W S hW hS hi ho 6 (by omega) d hd.ok) ?_⟩
        rintro _ ⟨w', rfl, hw'⟩
        have : w' = w := Bool.eq_iff_iff.mpr (hw'.trans hw.symm)
        subst this
        walk_at "ev"
        refine Opt_mono (l_same_ok 5 (by omega) (by omega) (.bl w') rfl) ?_
        rintro _ rfl
        walk_at "ev"
        rw [hr1]
        walk_at "ev"
        rw [okR_reprD hr2, eq_reprD hr2]
        walk_at "ev"
        exact ⟨some d, some _, rfl⟩
      · rintro _ ⟨a4, a8, rfl⟩
        walk_at "ev"
        rw [chan_2]
        walk_at "ev"
        rw [rng_nD]
        refine ⟨by omega, by omega, noO_chan _, noO_chan _, noO_nDs 39 _, Opt_mono (p_is_simulation_ok (by omega) W W hW hW rfl rfl 6 (by omega) _ (tup_thing (fun d hd => ?_) ?_).ok) ?_⟩
        · obtain ⟨v, hv, rfl⟩ := List.mem_map.mp hd
          exact nD_lite (by have := List.mem_range.mp hv; omega)
        · rw [List.length_map, List.length_range]; omega
        rintro _ ⟨w, rfl, hw⟩
        have : w = true := hw.mpr (sim_self hW)
        subst this
        walk_at "ev"
        exact ⟨p3, some _, some _, a4, some _, some _, some _, a8, rfl, by omega⟩
  · rintro _ ⟨p1, a2, v3, a4, a5, a6, a7, a8, rfl, hp1⟩
    walk_at "ev"
theorem plain_law (ns : List Int) (hn : ns.length ≤ 63) : ∃ r, Phi theT 100 dfs 40 278 [.fz (ns.map .int)] [] = some r ∧ r.d = .bl true := Opt_ex (plain_q (by decide) ns hn)
end Py
set_option maxHeartbeats 0
/-! What the top has written; the law. -/
namespace Py
open PySem PySem.Spec PyProof.Rows L2
open Classical
theorem facts {l : PySem.W.OpenLaw} {w : World} {K : PySem.W.Frag} {h : Heap} {mg : Str → Option Value} {fa f0 f1 f2 f3 f4 f5 f6 f7 f8 f9 f10 f11 f12 f13 f14 f15 f16 f17 f18 : Addr} (X : K.In h) (G : h.Ns mainGlobals mg) (hfa : mg "law" = some (.ref fa))
    {od0 an0 od1 an1 od2 an2 od3 an3 od4 an4 od5 an5 od6 an6 od7 an7 od8 an8 od9 an9 od10 an10 od11 an11 od12 an12 od13 an13 od14 an14 od15 an15 od16 an16 od17 an17 od18 an18 : Option Addr} {sl0 sl1 sl2 sl3 sl4 sl5 sl6 sl7 sl8 sl9 sl10 sl11 sl12 sl13 sl14 sl15 sl16 sl17 sl18 : Array (Option Value)} {oc0 kV0 dc0 pm0 cd0 ct0 oc1 kV1 dc1 pm1 cd1 ct1 oc2 kV2 dc2 pm2 cd2 ct2 oc3 kV3 dc3 pm3 cd3 ct3 oc4 kV4 dc4 pm4 cd4 ct4 oc5 kV5 dc5 pm5 cd5 ct5 oc6 kV6 dc6 pm6 cd6 ct6 oc7 kV7 dc7 pm7 cd7 ct7 oc8 kV8 dc8 pm8 cd8 ct8 oc9 kV9 dc9 pm9 cd9 ct9 oc10 kV10 dc10 pm10 cd10 ct10 oc11 kV11 dc11 pm11 cd11 ct11 oc12 kV12 dc12 pm12 cd12 ct12 oc13 kV13 dc13 pm13 cd13 ct13 oc14 kV14 dc14 pm14 cd14 ct14 oc15 kV15 dc15 pm15 cd15 ct15 oc16 kV16 dc16 pm16 cd16 ct16 oc17 kV17 dc17 pm17 cd17 ct17 oc18 kV18 dc18 pm18 cd18 ct18 : Value}
    (a0 : PySem.W.nsIn K mainGlobals "is_integer" = some (some (.ref f0))) (l0 : K.lookup f0 = some ⟨oc0, od0, .func (PySem.W.fnOf "is_integer" "is_integer" (defArgs (topS 1)) (defBody (topS 1)) (defScope (topS 1)) .none kV0 dc0 pm0 an0 cd0 ct0), sl0⟩) (c0 : PySem.W.codeIn K cd0 "is_integer" = true) (k0 : PySem.W.keepIn K (.ref f0) = true)
    (a1 : PySem.W.nsIn K mainGlobals "is_index" = some (some (.ref f1))) (l1 : K.lookup f1 = some ⟨oc1, od1, .func (PySem.W.fnOf "is_index" "is_index" (defArgs (topS 2)) (defBody (topS 2)) (defScope (topS 2)) .none kV1 dc1 pm1 an1 cd1 ct1), sl1⟩) (c1 : PySem.W.codeIn K cd1 "is_index" = true) (k1 : PySem.W.keepIn K (.ref f1) = true)
    (a2 : PySem.W.nsIn K mainGlobals "corresponds" = some (some (.ref f2))) (l2 : K.lookup f2 = some ⟨oc2, od2, .func (PySem.W.fnOf "corresponds" "corresponds" (defArgs (topS 4)) (defBody (topS 4)) (defScope (topS 4)) .none kV2 dc2 pm2 an2 cd2 ct2), sl2⟩) (c2 : PySem.W.codeIn K cd2 "corresponds" = true) (k2 : PySem.W.keepIn K (.ref f2) = true)
    (a3 : PySem.W.nsIn K mainGlobals "is_simulation" = some (some (.ref f3))) (l3 : K.lookup f3 = some ⟨oc3, od3, .func (PySem.W.fnOf "is_simulation" "is_simulation" (defArgs (topS 5)) (defBody (topS 5)) (defScope (topS 5)) .none kV3 dc3 pm3 an3 cd3 ct3), sl3⟩) (c3 : PySem.W.codeIn K cd3 "is_simulation" = true) (k3 : PySem.W.keepIn K (.ref f3) = true)
    (a4 : PySem.W.nsIn K mainGlobals "_law_open" = some (some (.ref f4))) (l4 : K.lookup f4 = some ⟨oc4, od4, .func (PySem.W.fnOf "_law_open" "_law_open" (defArgs (topS 7)) (defBody (topS 7)) (defScope (topS 7)) .none kV4 dc4 pm4 an4 cd4 ct4), sl4⟩) (c4 : PySem.W.codeIn K cd4 "_law_open" = true) (k4 : PySem.W.keepIn K (.ref f4) = true)
    (a5 : PySem.W.nsIn K mainGlobals "_law_spread" = some (some (.ref f5))) (l5 : K.lookup f5 = some ⟨oc5, od5, .func (PySem.W.fnOf "_law_spread" "_law_spread" (defArgs (topS 8)) (defBody (topS 8)) (defScope (topS 8)) .none kV5 dc5 pm5 an5 cd5 ct5), sl5⟩) (c5 : PySem.W.codeIn K cd5 "_law_spread" = true) (k5 : PySem.W.keepIn K (.ref f5) = true)
    (a6 : PySem.W.nsIn K mainGlobals "_law_take" = some (some (.ref f6))) (l6 : K.lookup f6 = some ⟨oc6, od6, .func (PySem.W.fnOf "_law_take" "_law_take" (defArgs (topS 9)) (defBody (topS 9)) (defScope (topS 9)) .none kV6 dc6 pm6 an6 cd6 ct6), sl6⟩) (c6 : PySem.W.codeIn K cd6 "_law_take" = true) (k6 : PySem.W.keepIn K (.ref f6) = true)
    (a7 : PySem.W.nsIn K mainGlobals "_law_same" = some (some (.ref f7))) (l7 : K.lookup f7 = some ⟨oc7, od7, .func (PySem.W.fnOf "_law_same" "_law_same" (defArgs (topS 10)) (defBody (topS 10)) (defScope (topS 10)) .none kV7 dc7 pm7 an7 cd7 ct7), sl7⟩) (c7 : PySem.W.codeIn K cd7 "_law_same" = true) (k7 : PySem.W.keepIn K (.ref f7) = true)
    (a8 : PySem.W.nsIn K mainGlobals "_law_draw_alphabet" = some (some (.ref f8))) (l8 : K.lookup f8 = some ⟨oc8, od8, .func (PySem.W.fnOf "_law_draw_alphabet" "_law_draw_alphabet" (defArgs (topS 11)) (defBody (topS 11)) (defScope (topS 11)) .none kV8 dc8 pm8 an8 cd8 ct8), sl8⟩) (c8 : PySem.W.codeIn K cd8 "_law_draw_alphabet" = true) (k8 : PySem.W.keepIn K (.ref f8) = true)
    (a9 : PySem.W.nsIn K mainGlobals "_law_draw_entry" = some (some (.ref f9))) (l9 : K.lookup f9 = some ⟨oc9, od9, .func (PySem.W.fnOf "_law_draw_entry" "_law_draw_entry" (defArgs (topS 12)) (defBody (topS 12)) (defScope (topS 12)) .none kV9 dc9 pm9 an9 cd9 ct9), sl9⟩) (c9 : PySem.W.codeIn K cd9 "_law_draw_entry" = true) (k9 : PySem.W.keepIn K (.ref f9) = true)
    (a10 : PySem.W.nsIn K mainGlobals "_law_draw_channel" = some (some (.ref f10))) (l10 : K.lookup f10 = some ⟨oc10, od10, .func (PySem.W.fnOf "_law_draw_channel" "_law_draw_channel" (defArgs (topS 13)) (defBody (topS 13)) (defScope (topS 13)) .none kV10 dc10 pm10 an10 cd10 ct10), sl10⟩) (c10 : PySem.W.codeIn K cd10 "_law_draw_channel" = true) (k10 : PySem.W.keepIn K (.ref f10) = true)
    (a11 : PySem.W.nsIn K mainGlobals "_law_lying" = some (some (.ref f11))) (l11 : K.lookup f11 = some ⟨oc11, od11, .func (PySem.W.fnOf "_law_lying" "_law_lying" (defArgs (topS 14)) (defBody (topS 14)) (defScope (topS 14)) .none kV11 dc11 pm11 an11 cd11 ct11), sl11⟩) (c11 : PySem.W.codeIn K cd11 "_law_lying" = true) (k11 : PySem.W.keepIn K (.ref f11) = true)
    (a12 : PySem.W.nsIn K mainGlobals "_law_any_channel" = some (some (.ref f12))) (l12 : K.lookup f12 = some ⟨oc12, od12, .func (PySem.W.fnOf "_law_any_channel" "_law_any_channel" (defArgs (topS 15)) (defBody (topS 15)) (defScope (topS 15)) .none kV12 dc12 pm12 an12 cd12 ct12), sl12⟩) (c12 : PySem.W.codeIn K cd12 "_law_any_channel" = true) (k12 : PySem.W.keepIn K (.ref f12) = true)
    (a13 : PySem.W.nsIn K mainGlobals "_law_is_simulation" = some (some (.ref f13))) (l13 : K.lookup f13 = some ⟨oc13, od13, .func (PySem.W.fnOf "_law_is_simulation" "_law_is_simulation" (defArgs (topS 16)) (defBody (topS 16)) (defScope (topS 16)) .none kV13 dc13 pm13 an13 cd13 ct13), sl13⟩) (c13 : PySem.W.codeIn K cd13 "_law_is_simulation" = true) (k13 : PySem.W.keepIn K (.ref f13) = true)
    (a14 : PySem.W.nsIn K mainGlobals "_law_weaker" = some (some (.ref f14))) (l14 : K.lookup f14 = some ⟨oc14, od14, .func (PySem.W.fnOf "_law_weaker" "_law_weaker" (defArgs (topS 17)) (defBody (topS 17)) (defScope (topS 17)) .none kV14 dc14 pm14 an14 cd14 ct14), sl14⟩) (c14 : PySem.W.codeIn K cd14 "_law_weaker" = true) (k14 : PySem.W.keepIn K (.ref f14) = true)
    (a15 : PySem.W.nsIn K mainGlobals "_law_two_channels" = some (some (.ref f15))) (l15 : K.lookup f15 = some ⟨oc15, od15, .func (PySem.W.fnOf "_law_two_channels" "_law_two_channels" (defArgs (topS 18)) (defBody (topS 18)) (defScope (topS 18)) .none kV15 dc15 pm15 an15 cd15 ct15), sl15⟩) (c15 : PySem.W.codeIn K cd15 "_law_two_channels" = true) (k15 : PySem.W.keepIn K (.ref f15) = true)
    (a16 : PySem.W.nsIn K mainGlobals "_law_changed" = some (some (.ref f16))) (l16 : K.lookup f16 = some ⟨oc16, od16, .func (PySem.W.fnOf "_law_changed" "_law_changed" (defArgs (topS 19)) (defBody (topS 19)) (defScope (topS 19)) .none kV16 dc16 pm16 an16 cd16 ct16), sl16⟩) (c16 : PySem.W.codeIn K cd16 "_law_changed" = true) (k16 : PySem.W.keepIn K (.ref f16) = true)
    (a17 : PySem.W.nsIn K mainGlobals "_law_is_right" = some (some (.ref f17))) (l17 : K.lookup f17 = some ⟨oc17, od17, .func (PySem.W.fnOf "_law_is_right" "_law_is_right" (defArgs (topS 20)) (defBody (topS 20)) (defScope (topS 20)) .none kV17 dc17 pm17 an17 cd17 ct17), sl17⟩) (c17 : PySem.W.codeIn K cd17 "_law_is_right" = true) (k17 : PySem.W.keepIn K (.ref f17) = true)
    (a18 : PySem.W.nsIn K mainGlobals "law" = some (some (.ref f18))) (l18 : K.lookup f18 = some ⟨oc18, od18, .func (PySem.W.fnOf "law" "law" (defArgs (topS 21)) (defBody (topS 21)) (defScope (topS 21)) .none kV18 dc18 pm18 an18 cd18 ct18), sl18⟩) (c18 : PySem.W.codeIn K cd18 "law" = true) (k18 : PySem.W.keepIn K (.ref f18) = true)
    (z0 : PySem.W.nsIn K mainGlobals "range" = some none)
    (z1 : PySem.W.nsIn K mainGlobals "enumerate" = some none)
    (z2 : PySem.W.nsIn K mainGlobals "zip" = some none)
    (z3 : PySem.W.nsIn K mainGlobals "sorted" = some none)
    (z4 : PySem.W.nsIn K mainGlobals "set" = some none)
    (z5 : PySem.W.nsIn K mainGlobals "isinstance" = some none)
    (z6 : PySem.W.nsIn K mainGlobals "len" = some none)
    (z7 : PySem.W.nsIn K mainGlobals "sum" = some none)
    (z8 : PySem.W.nsIn K mainGlobals "min" = some none)
    (z9 : PySem.W.nsIn K mainGlobals "max" = some none)
    (z10 : PySem.W.nsIn K mainGlobals "all" = some none)
    (z11 : PySem.W.nsIn K mainGlobals "any" = some none)
    (z12 : PySem.W.nsIn K mainGlobals "list" = some none)
    (z13 : PySem.W.nsIn K mainGlobals "tuple" = some none)
    (z14 : PySem.W.nsIn K mainGlobals "int" = some none)
    (z15 : PySem.W.nsIn K mainGlobals "abs" = some none)
    (z16 : PySem.W.nsIn K mainGlobals "repr" = some none)
    (z17 : PySem.W.nsIn K mainGlobals "str" = some none)
    (z18 : PySem.W.nsIn K mainGlobals "bool" = some none)
    (z19 : PySem.W.nsIn K mainGlobals "dict" = some none)
    (z20 : PySem.W.nsIn K mainGlobals "reversed" = some none)
    : ∃ fd : FuncData, (∀ (s : Shared) (v : Value), BindsTo s fd ⟨[v], []⟩ [("_law_script", v)]) ∧ ∃ G : Gb, G.K = K ∧ ∀ base : Heap, K.In base → base.Ns mainGlobals mg → (∃ o, base.get? sysModules = some o) → FnG l.prog w K mg base 40 fa fd ["_law_script"] (spF G [false] (Phi theT 100 dfs 40 278)) := by
  have e := hfa.symm.trans (PySem.W.mg_of X G a18)
  cases e
  have F0 := fun_mk (st := topS 1) l0 c0 k0
  have b0 := F0.binds (ps := ["value"]) fun _ _ _ _ _ _ us hl => match us, hl with | [_], _ => rfl
  have F1 := fun_mk (st := topS 2) l1 c1 k1
  have b1 := F1.binds (ps := ["value", "size"]) fun _ _ _ _ _ _ us hl => match us, hl with | [_, _], _ => rfl
  have F2 := fun_mk (st := topS 4) l2 c2 k2
  have b2 := F2.binds (ps := ["weak_entry", "strong_entry", "simulation"]) fun _ _ _ _ _ _ us hl => match us, hl with | [_, _, _], _ => rfl
  have F3 := fun_mk (st := topS 5) l3 c3 k3
  have b3 := F3.binds (ps := ["weak", "strong", "value"]) fun _ _ _ _ _ _ us hl => match us, hl with | [_, _, _], _ => rfl
  have F4 := fun_mk (st := topS 7) l4 c4 k4
  have b4 := F4.binds (ps := ["_law_script"]) fun _ _ _ _ _ _ us hl => match us, hl with | [_], _ => rfl
  have F5 := fun_mk (st := topS 8) l5 c5 k5
  have b5 := F5.binds (ps := ["_law_cell", "_law_at"]) fun _ _ _ _ _ _ us hl => match us, hl with | [_, _], _ => rfl
  have F6 := fun_mk (st := topS 9) l6 c6 k6
  have b6 := F6.binds (ps := ["_law_pen", "_law_amount"]) fun _ _ _ _ _ _ us hl => match us, hl with | [_, _], _ => rfl
  have F7 := fun_mk (st := topS 10) l7 c7 k7
  have b7 := F7.binds (ps := ["_law_found", "_law_due"]) fun _ _ _ _ _ _ us hl => match us, hl with | [_, _], _ => rfl
  have F8 := fun_mk (st := topS 11) l8 c8 k8
  have b8 := F8.binds (ps := ["_law_pen", "_law_size"]) fun _ _ _ _ _ _ us hl => match us, hl with | [_, _], _ => rfl
  have F9 := fun_mk (st := topS 12) l9 c9 k9
  have b9 := F9.binds (ps := ["_law_pen", "_law_outputs", "_law_size", "_law_favored"]) fun _ _ _ _ _ _ us hl => match us, hl with | [_, _, _, _], _ => rfl
  have F10 := fun_mk (st := topS 13) l10 c10 k10
  have b10 := F10.binds (ps := ["_law_pen", "_law_inputs", "_law_outputs", "_law_size"]) fun _ _ _ _ _ _ us hl => match us, hl with | [_, _, _, _], _ => rfl
  have F11 := fun_mk (st := topS 14) l11 c11 k11
  have b11 := F11.binds (ps := ["_law_alphabet", "_law_limit"]) fun _ _ _ _ _ _ us hl => match us, hl with | [_, _], _ => rfl
  have F12 := fun_mk (st := topS 15) l12 c12 k12
  have b12 := F12.binds (ps := ["_law_pen", "_law_inputs", "_law_outputs", "_law_size"]) fun _ _ _ _ _ _ us hl => match us, hl with | [_, _, _, _], _ => rfl
  have F13 := fun_mk (st := topS 16) l13 c13 k13
  have b13 := F13.binds (ps := ["_law_weak", "_law_strong", "_law_value"]) fun _ _ _ _ _ _ us hl => match us, hl with | [_, _, _], _ => rfl
  have F14 := fun_mk (st := topS 17) l14 c14 k14
  have b14 := F14.binds (ps := ["_law_pen", "_law_strong", "_law_extra"]) fun _ _ _ _ _ _ us hl => match us, hl with | [_, _, _], _ => rfl
  have F15 := fun_mk (st := topS 18) l15 c15 k15
  have b15 := F15.binds (ps := ["_law_pen", "_law_size"]) fun _ _ _ _ _ _ us hl => match us, hl with | [_, _], _ => rfl
  have F16 := fun_mk (st := topS 19) l16 c16 k16
  have b16 := F16.binds (ps := ["_law_pen", "_law_places", "_law_size"]) fun _ _ _ _ _ _ us hl => match us, hl with | [_, _, _], _ => rfl
  have F17 := fun_mk (st := topS 20) l17 c17 k17
  have b17 := F17.binds (ps := ["_law_weak", "_law_strong", "_law_value"]) fun _ _ _ _ _ _ us hl => match us, hl with | [_, _, _], _ => rfl
  have F18 := fun_mk (st := topS 21) l18 c18 k18
  have b18 := F18.binds (ps := ["_law_script"]) fun _ _ _ _ _ _ us hl => match us, hl with | [_], _ => rfl
  refine ⟨_, fun s v => .of_eq rfl, ⟨K, fun _ => 0, []⟩, rfl, fun base _ _ hsm => fnG_all (C := theC) (T := theT) (F := 100) (G := ⟨K, fun _ => 0, []⟩) (dfs := dfs) (wrt := wrt) (fa := fun n => match n with | 18 => f0 | 19 => f1 | 271 => f2 | 272 => f3 | 0 => f4 | 1 => f5 | 2 => f6 | 3 => f7 | 4 => f8 | 5 => f9 | 6 => f10 | 7 => f11 | 8 => f12 | 273 => f13 | 274 => f14 | 275 => f15 | 276 => f16 | 277 => f17 | 278 => fa | _ => 0) (fd := fun n => match n with | 18 => PySem.W.fnOf "is_integer" "is_integer" (defArgs (topS 1)) (defBody (topS 1)) (defScope (topS 1)) .none kV0 dc0 pm0 an0 cd0 ct0 | 19 => PySem.W.fnOf "is_index" "is_index" (defArgs (topS 2)) (defBody (topS 2)) (defScope (topS 2)) .none kV1 dc1 pm1 an1 cd1 ct1 | 271 => PySem.W.fnOf "corresponds" "corresponds" (defArgs (topS 4)) (defBody (topS 4)) (defScope (topS 4)) .none kV2 dc2 pm2 an2 cd2 ct2 | 272 => PySem.W.fnOf "is_simulation" "is_simulation" (defArgs (topS 5)) (defBody (topS 5)) (defScope (topS 5)) .none kV3 dc3 pm3 an3 cd3 ct3 | 0 => PySem.W.fnOf "_law_open" "_law_open" (defArgs (topS 7)) (defBody (topS 7)) (defScope (topS 7)) .none kV4 dc4 pm4 an4 cd4 ct4 | 1 => PySem.W.fnOf "_law_spread" "_law_spread" (defArgs (topS 8)) (defBody (topS 8)) (defScope (topS 8)) .none kV5 dc5 pm5 an5 cd5 ct5 | 2 => PySem.W.fnOf "_law_take" "_law_take" (defArgs (topS 9)) (defBody (topS 9)) (defScope (topS 9)) .none kV6 dc6 pm6 an6 cd6 ct6 | 3 => PySem.W.fnOf "_law_same" "_law_same" (defArgs (topS 10)) (defBody (topS 10)) (defScope (topS 10)) .none kV7 dc7 pm7 an7 cd7 ct7 | 4 => PySem.W.fnOf "_law_draw_alphabet" "_law_draw_alphabet" (defArgs (topS 11)) (defBody (topS 11)) (defScope (topS 11)) .none kV8 dc8 pm8 an8 cd8 ct8 | 5 => PySem.W.fnOf "_law_draw_entry" "_law_draw_entry" (defArgs (topS 12)) (defBody (topS 12)) (defScope (topS 12)) .none kV9 dc9 pm9 an9 cd9 ct9 | 6 => PySem.W.fnOf "_law_draw_channel" "_law_draw_channel" (defArgs (topS 13)) (defBody (topS 13)) (defScope (topS 13)) .none kV10 dc10 pm10 an10 cd10 ct10 | 7 => PySem.W.fnOf "_law_lying" "_law_lying" (defArgs (topS 14)) (defBody (topS 14)) (defScope (topS 14)) .none kV11 dc11 pm11 an11 cd11 ct11 | 8 => PySem.W.fnOf "_law_any_channel" "_law_any_channel" (defArgs (topS 15)) (defBody (topS 15)) (defScope (topS 15)) .none kV12 dc12 pm12 an12 cd12 ct12 | 273 => PySem.W.fnOf "_law_is_simulation" "_law_is_simulation" (defArgs (topS 16)) (defBody (topS 16)) (defScope (topS 16)) .none kV13 dc13 pm13 an13 cd13 ct13 | 274 => PySem.W.fnOf "_law_weaker" "_law_weaker" (defArgs (topS 17)) (defBody (topS 17)) (defScope (topS 17)) .none kV14 dc14 pm14 an14 cd14 ct14 | 275 => PySem.W.fnOf "_law_two_channels" "_law_two_channels" (defArgs (topS 18)) (defBody (topS 18)) (defScope (topS 18)) .none kV15 dc15 pm15 an15 cd15 ct15 | 276 => PySem.W.fnOf "_law_changed" "_law_changed" (defArgs (topS 19)) (defBody (topS 19)) (defScope (topS 19)) .none kV16 dc16 pm16 an16 cd16 ct16 | 277 => PySem.W.fnOf "_law_is_right" "_law_is_right" (defArgs (topS 20)) (defBody (topS 20)) (defScope (topS 20)) .none kV17 dc17 pm17 an17 cd17 ct17 | 278 => PySem.W.fnOf "law" "law" (defArgs (topS 21)) (defBody (topS 21)) (defScope (topS 21)) .none kV18 dc18 pm18 an18 cd18 ct18 | _ => PySem.W.fnOf "law" "law" (defArgs (topS 21)) (defBody (topS 21)) (defScope (topS 21)) .none kV18 dc18 pm18 an18 cd18 ct18) rfl ?bl ?cn hsm ?ok 40 278 d_law_k60 rfl⟩
  case bl =>
    intro x hx
    simp only [bnames, List.mem_cons, List.not_mem_nil, or_false] at hx
    rcases hx with rfl | rfl | rfl | rfl | rfl | rfl | rfl | rfl | rfl | rfl | rfl | rfl | rfl | rfl | rfl | rfl | rfl | rfl | rfl | rfl | rfl
    · exact PySem.W.mg_none_of X G z0
    · exact PySem.W.mg_none_of X G z1
    · exact PySem.W.mg_none_of X G z2
    · exact PySem.W.mg_none_of X G z3
    · exact PySem.W.mg_none_of X G z4
    · exact PySem.W.mg_none_of X G z5
    · exact PySem.W.mg_none_of X G z6
    · exact PySem.W.mg_none_of X G z7
    · exact PySem.W.mg_none_of X G z8
    · exact PySem.W.mg_none_of X G z9
    · exact PySem.W.mg_none_of X G z10
    · exact PySem.W.mg_none_of X G z11
    · exact PySem.W.mg_none_of X G z12
    · exact PySem.W.mg_none_of X G z13
    · exact PySem.W.mg_none_of X G z14
    · exact PySem.W.mg_none_of X G z15
    · exact PySem.W.mg_none_of X G z16
    · exact PySem.W.mg_none_of X G z17
    · exact PySem.W.mg_none_of X G z18
    · exact PySem.W.mg_none_of X G z19
    · exact PySem.W.mg_none_of X G z20
  case cn =>
    intro x d h
    simp only [theC] at h
    cases h
  case ok =>
    intro f d h
    unfold dfs at h
    split at h
    · cases h
      exact ⟨rfl, rfl, ⟨40, 40, ok_p_is_integer⟩, PySem.W.mg_of X G a0, F0, b0⟩
    · cases h
      exact ⟨rfl, rfl, ⟨40, 40, ok_p_is_index⟩, PySem.W.mg_of X G a1, F1, b1⟩
    · cases h
      exact ⟨rfl, rfl, ⟨40, 40, ok_p_corresponds⟩, PySem.W.mg_of X G a2, F2, b2⟩
    · cases h
      exact ⟨rfl, rfl, ⟨40, 40, ok_p_is_simulation⟩, PySem.W.mg_of X G a3, F3, b3⟩
    · cases h
      exact ⟨rfl, rfl, ⟨40, 40, ok_l_open⟩, PySem.W.mg_of X G a4, F4, b4⟩
    · cases h
      exact ⟨rfl, rfl, ⟨40, 40, ok_l_spread⟩, PySem.W.mg_of X G a5, F5, b5⟩
    · cases h
      exact ⟨rfl, rfl, ⟨40, 40, ok_l_take⟩, PySem.W.mg_of X G a6, F6, b6⟩
    · cases h
      exact ⟨rfl, rfl, ⟨40, 40, ok_l_same⟩, PySem.W.mg_of X G a7, F7, b7⟩
    · cases h
      exact ⟨rfl, rfl, ⟨40, 40, ok_l_draw_alphabet⟩, PySem.W.mg_of X G a8, F8, b8⟩
    · cases h
      exact ⟨rfl, rfl, ⟨40, 40, ok_l_draw_entry⟩, PySem.W.mg_of X G a9, F9, b9⟩
    · cases h
      exact ⟨rfl, rfl, ⟨40, 40, ok_l_draw_channel⟩, PySem.W.mg_of X G a10, F10, b10⟩
    · cases h
      exact ⟨rfl, rfl, ⟨40, 40, ok_l_lying⟩, PySem.W.mg_of X G a11, F11, b11⟩
    · cases h
      exact ⟨rfl, rfl, ⟨40, 40, ok_l_any_channel⟩, PySem.W.mg_of X G a12, F12, b12⟩
    · cases h
      exact ⟨rfl, rfl, ⟨40, 40, ok_l_is_simulation⟩, PySem.W.mg_of X G a13, F13, b13⟩
    · cases h
      exact ⟨rfl, rfl, ⟨40, 40, ok_l_weaker⟩, PySem.W.mg_of X G a14, F14, b14⟩
    · cases h
      exact ⟨rfl, rfl, ⟨40, 40, ok_l_two_channels⟩, PySem.W.mg_of X G a15, F15, b15⟩
    · cases h
      exact ⟨rfl, rfl, ⟨40, 40, ok_l_changed_v7⟩, PySem.W.mg_of X G a16, F16, b16⟩
    · cases h
      exact ⟨rfl, rfl, ⟨40, 40, ok_l_is_right⟩, PySem.W.mg_of X G a17, F17, b17⟩
    · cases h
      exact ⟨rfl, rfl, ⟨40, 40, ok_law_k60⟩, PySem.W.mg_of X G a18, F18, b18⟩
    · cases h
end Py
open PySem PySem.W PyProof.Rows
set_option maxHeartbeats 0 in
theorem PySem.Challenge.cw_echolots_k60_simulations_recognized_holds : PySem.Challenge.rw_echolots_k60_simulations_recognized.Holds := by
  w_on; o_law; k_head; (case hw => w_witness2)
  k_fill
  refine Py.walk_ofG (l := PySem.Challenge.rw_echolots_k60_simulations_recognized) (n := 63) (k := 40) (x := "_law_script") (sem := fun _ => Py.Phi Py.theT 100 Py.dfs 40 278) rfl (by decide) rfl ⟨rfl, by decide, by decide⟩ (by decide +kernel) (fun w h Y => PySem.W.kIn_of Y) ?F (fun _ ns hl => Py.plain_law ns hl)
  case F =>
    intro w mg fa h KX G hmg
    refine' Py.facts KX G hmg ?a0 ?l0 ?c0 ?k0 ?a1 ?l1 ?c1 ?k1 ?a2 ?l2 ?c2 ?k2 ?a3 ?l3 ?c3 ?k3 ?a4 ?l4 ?c4 ?k4 ?a5 ?l5 ?c5 ?k5 ?a6 ?l6 ?c6 ?k6 ?a7 ?l7 ?c7 ?k7 ?a8 ?l8 ?c8 ?k8 ?a9 ?l9 ?c9 ?k9 ?a10 ?l10 ?c10 ?k10 ?a11 ?l11 ?c11 ?k11 ?a12 ?l12 ?c12 ?k12 ?a13 ?l13 ?c13 ?k13 ?a14 ?l14 ?c14 ?k14 ?a15 ?l15 ?c15 ?k15 ?a16 ?l16 ?c16 ?k16 ?a17 ?l17 ?c17 ?k17 ?a18 ?l18 ?c18 ?k18  ?z0 ?z1 ?z2 ?z3 ?z4 ?z5 ?z6 ?z7 ?z8 ?z9 ?z10 ?z11 ?z12 ?z13 ?z14 ?z15 ?z16 ?z17 ?z18 ?z19 ?z20
    (case a0 => k_is); (case l0 => k_is); (case c0 => k_is); (case k0 => k_is)
    (case a1 => k_is); (case l1 => k_is); (case c1 => k_is); (case k1 => k_is)
    (case a2 => k_is); (case l2 => k_is); (case c2 => k_is); (case k2 => k_is)
    (case a3 => k_is); (case l3 => k_is); (case c3 => k_is); (case k3 => k_is)
    (case a4 => k_is); (case l4 => k_is); (case c4 => k_is); (case k4 => k_is)
    (case a5 => k_is); (case l5 => k_is); (case c5 => k_is); (case k5 => k_is)
    (case a6 => k_is); (case l6 => k_is); (case c6 => k_is); (case k6 => k_is)
    (case a7 => k_is); (case l7 => k_is); (case c7 => k_is); (case k7 => k_is)
    (case a8 => k_is); (case l8 => k_is); (case c8 => k_is); (case k8 => k_is)
    (case a9 => k_is); (case l9 => k_is); (case c9 => k_is); (case k9 => k_is)
    (case a10 => k_is); (case l10 => k_is); (case c10 => k_is); (case k10 => k_is)
    (case a11 => k_is); (case l11 => k_is); (case c11 => k_is); (case k11 => k_is)
    (case a12 => k_is); (case l12 => k_is); (case c12 => k_is); (case k12 => k_is)
    (case a13 => k_is); (case l13 => k_is); (case c13 => k_is); (case k13 => k_is)
    (case a14 => k_is); (case l14 => k_is); (case c14 => k_is); (case k14 => k_is)
    (case a15 => k_is); (case l15 => k_is); (case c15 => k_is); (case k15 => k_is)
    (case a16 => k_is); (case l16 => k_is); (case c16 => k_is); (case k16 => k_is)
    (case a17 => k_is); (case l17 => k_is); (case c17 => k_is); (case k17 => k_is)
    (case a18 => k_is); (case l18 => k_is); (case c18 => k_is); (case k18 => k_is)
    (case z0 => k_is)
    (case z1 => k_is)
    (case z2 => k_is)
    (case z3 => k_is)
    (case z4 => k_is)
    (case z5 => k_is)
    (case z6 => k_is)
    (case z7 => k_is)
    (case z8 => k_is)
    (case z9 => k_is)
    (case z10 => k_is)
    (case z11 => k_is)
    (case z12 => k_is)
    (case z13 => k_is)
    (case z14 => k_is)
    (case z15 => k_is)
    (case z16 => k_is)
    (case z17 => k_is)
    (case z18 => k_is)
    (case z19 => k_is)
    (case z20 => k_is)
