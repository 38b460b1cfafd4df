import PyProof.Rows.All
import Wide.All
import OpenK.AllK
import Wide.FinOn
import HandS.ForMost
import HandS.ForExc
import HandS.IsInst
import HandS.Deep
import HandS.Flow
import HandS.Lambda
import HandS.TupAny
import HandS.TupMul
import HandS.TupLe
import HandS.Zip
import HandS.ExcIs
import HandS.TryMany
import HandS.Conv
import HandS.Style
import HandS.SortInts
import HandS.Dict
import HandS.DictComp
import KE.KDictDisplayH
import HandS.SortOrd
import KE.KeyNested
import HandS.TupSets
import HandS.SetFor
import KE.SortKeyHeap
import HandS.EndTab
import KE.KNestM
import HandS.Head0
import HandS.Head1
import HandS.Head2
import HandS.HeadEnd
import HandS.HeadHook1
import HandS.HeadHook2
import HandS.HeadNt
import HandS.Defaults
import HandS.Iter
import HandS.Small
import PySem.Challenge.RW_shownshares_k03_ends_of_lots
set_option Elab.async false
set_option linter.all false
set_option autoImplicit false
set_option maxRecDepth 100000
set_option maxHeartbeats 8000000
/-! Data in place of heaps. A value of the program stands for a datum Dt; a frame's slots stand for data, too (Sl); an owned slot holds a list or dict that nothing else reaches. -/
namespace Dl
open PySem L2

/-- what may come: stuck (nothing is claimed), a thing, an exception of the class of that name -/
inductive Rs (α : Type) where
  | st | ok (a : α) | ex (n : Str)
@[simp] def Rs.bind {α β : Type} (r : Rs α) (f : α → Rs β) : Rs β := match r with
  | .st => .st
  | .ok a => f a
  | .ex n => .ex n
@[simp] def ofO {α : Type} (o : Option α) : Rs α := match o with
  | none => .st
  | some a => .ok a

inductive Dt where
  | non | bl (b : Bool) | int (i : Int) | str (x : Str)
  | lst (xs : List Dt) | tup (xs : List Dt) | dct (kvs : List (List Key × Dt)) | obj (c : Str) (fs : List (Str × Dt))
  /-- a list of ints that is read, never written: the script -/
  | scr (ns : List Int)
  /-- a tuple of the module -/
  | cst (xs : List Dt)

section
variable (K : PySem.W.Frag) (cl : Str → Addr)
mutual
/-- v is the datum d, all its parts stand in E -/
inductive Dn (E : Hp) : V → Dt → Prop
  | non : Dn E .non .non
  | bl (b : Bool) : Dn E (.bl b) (.bl b)
  | int (i : Int) : Dn E (.int i) (.int i)
  | str (x : Str) : Dn E (.str x) (.str x)
  | lst {a : Addr} {vs : List V} {ds : List Dt} (h : E a = some (.lst vs)) (r : DnA E vs ds) : Dn E (.ref a) (.lst ds)
  | scr {a : Addr} {ns : List Int} (h : SqL K E a (ns.map V.int)) : Dn E (.ref a) (.scr ns)
  | tup {a : Addr} {vs : List V} {ds : List Dt} (h : E a = some (.tup vs)) (r : DnA E vs ds) : Dn E (.ref a) (.tup ds)
  | cst {a : Addr} {vs : List V} {ds : List Dt} (h : SqT K E a vs) (r : DnA E vs ds) : Dn E (.ref a) (.cst ds)
  | dct {a : Addr} {kvs : List (List Key × V)} {ds : List (List Key × Dt)} (h : Rd E a (.dT kvs)) (r : DnD E kvs ds) : Dn E (.ref a) (.dct ds)
  | obj {a dx : Addr} {c : Str} {fs : List (Str × V)} {ds : List (Str × Dt)} (h : E a = some (.ins (cl c) dx fs)) (r : DnF E fs ds) : Dn E (.ref a) (.obj c ds)
inductive DnA (E : Hp) : List V → List Dt → Prop
  | nil : DnA E [] []
  | cons {v : V} {vs : List V} {d : Dt} {ds : List Dt} (h : Dn E v d) (r : DnA E vs ds) : DnA E (v :: vs) (d :: ds)
inductive DnD (E : Hp) : List (List Key × V) → List (List Key × Dt) → Prop
  | nil : DnD E [] []
  | cons {k : List Key} {v : V} {vs : List (List Key × V)} {d : Dt} {ds : List (List Key × Dt)} (h : Dn E v d) (r : DnD E vs ds) : DnD E ((k, v) :: vs) ((k, d) :: ds)
inductive DnF (E : Hp) : List (Str × V) → List (Str × Dt) → Prop
  | nil : DnF E [] []
  | cons {k : Str} {v : V} {vs : List (Str × V)} {d : Dt} {ds : List (Str × Dt)} (h : Dn E v d) (r : DnF E vs ds) : DnF E ((k, v) :: vs) ((k, d) :: ds)
end
end

mutual
/-- as data of the library; no dict, no object -/
def toPy : Dt → Option PyData
  | .non => some .none
  | .bl b => some (.bool b)
  | .int i => some (.int i)
  | .str x => some (.str x)
  | .lst xs => (toPyA xs).map .list
  | .tup xs => (toPyA xs).map .tuple
  | .dct _ => none
  | .obj _ _ => none
  | .scr _ => none
  | .cst xs => (toPyA xs).map .tuple
def toPyA : List Dt → Option (List PyData)
  | [] => some []
  | x :: xs => match toPy x, toPyA xs with
    | some d, some ds => some (d :: ds)
    | _, _ => none
end
mutual
/-- nothing in it can be changed -/
def imm : Dt → Bool
  | .tup xs => immA xs
  | .cst xs => immA xs
  | .lst _ | .dct _ | .obj _ _ | .scr _ => false
  | _ => true
def immA : List Dt → Bool
  | [] => true
  | x :: xs => imm x && immA xs
end

section
variable {K : PySem.W.Frag} {cl : Str → Addr}
def Sub (E H : Hp) : Prop := ∀ a o, E a = some o → H a = some o
theorem Sub.refl (H : Hp) : Sub H H := fun _ _ h => h
theorem Sub.trans {E H G : Hp} (a : Sub E H) (b : Sub H G) : Sub E G := fun x o h => b x o (a x o h)
theorem Sub.rd {E H : Hp} (s : Sub E H) {a : Addr} {u : HO} (h : Rd E a u) : Rd H a u := by
  rcases h with h | ⟨o, h⟩
  · exact .inl (s _ _ h)
  · exact .inr ⟨o, s _ _ h⟩
theorem Sub.sqL {E H : Hp} (s : Sub E H) {a : Addr} {xs : List V} (h : SqL K E a xs) : SqL K H a xs := by
  rcases h with h | h
  · exact .inl (s.rd h)
  · exact .inr h
theorem Sub.sqT {E H : Hp} (s : Sub E H) {a : Addr} {xs : List V} (h : SqT K E a xs) : SqT K H a xs := by
  rcases h with h | h
  · exact .inl (s.rd h)
  · exact .inr h
mutual
theorem Dn.mono {E H : Hp} (s : Sub E H) : ∀ {d : Dt} {v : V}, Dn K cl E v d → Dn K cl H v d
  | .non, _, h => by cases h; exact .non
  | .bl _, _, h => by cases h; exact .bl _
  | .int _, _, h => by cases h; exact .int _
  | .str _, _, h => by cases h; exact .str _
  | .lst ds, _, h => by
    cases h with
    | lst h r => exact .lst (s _ _ h) (DnA.mono s r)
  | .tup ds, _, h => by
    cases h with
    | tup h r => exact .tup (s _ _ h) (DnA.mono s r)
  | .cst ds, _, h => by
    cases h with
    | cst h r => exact .cst (s.sqT h) (DnA.mono s r)
  | .dct ds, _, h => by
    cases h with
    | dct h r => exact .dct (s.rd h) (DnD.mono s r)
  | .obj c ds, _, h => by
    cases h with
    | obj h r => exact .obj (s _ _ h) (DnF.mono s r)
  | .scr ns, _, h => by
    cases h with
    | scr h => exact .scr (s.sqL h)
theorem DnA.mono {E H : Hp} (s : Sub E H) : ∀ {ds : List Dt} {vs : List V}, DnA K cl E vs ds → DnA K cl H vs ds
  | [], _, h => by cases h; exact .nil
  | d :: ds, _, h => by
    cases h with
    | cons h r => exact .cons (Dn.mono s h) (DnA.mono s r)
theorem DnD.mono {E H : Hp} (s : Sub E H) : ∀ {ds : List (List Key × Dt)} {vs : List (List Key × V)}, DnD K cl E vs ds → DnD K cl H vs ds
  | [], _, h => by cases h; exact .nil
  | (k, d) :: ds, _, h => by
    cases h with
    | cons h r => exact .cons (Dn.mono s h) (DnD.mono s r)
theorem DnF.mono {E H : Hp} (s : Sub E H) : ∀ {ds : List (Str × Dt)} {vs : List (Str × V)}, DnF K cl E vs ds → DnF K cl H vs ds
  | [], _, h => by cases h; exact .nil
  | (k, d) :: ds, _, h => by
    cases h with
    | cons h r => exact .cons (Dn.mono s h) (DnF.mono s r)
end
theorem DnA.length {E : Hp} : ∀ {ds : List Dt} {vs : List V}, DnA K cl E vs ds → vs.length = ds.length
  | [], _, h => by cases h; rfl
  | d :: ds, _, h => by
    cases h with
    | cons h r => simp [DnA.length r]
theorem DnD.length {E : Hp} : ∀ {ds : List (List Key × Dt)} {vs : List (List Key × V)}, DnD K cl E vs ds → vs.length = ds.length
  | [], _, h => by cases h; rfl
  | d :: ds, _, h => by
    cases h with
    | cons h r => simp [DnD.length r]
theorem DnA.get {E : Hp} : ∀ {ds : List Dt} {vs : List V} {i : Nat} {d : Dt}, DnA K cl E vs ds → ds[i]? = some d → ∃ v, vs[i]? = some v ∧ Dn K cl E v d
  | [], _, i, d, h, e => by simp at e
  | d :: ds, _, 0, _, h, e => by
    cases h with
    | cons h r => simp at e; subst e; exact ⟨_, rfl, h⟩
  | d :: ds, _, i + 1, _, h, e => by
    cases h with
    | cons h r =>
      obtain ⟨v, h1, h2⟩ := DnA.get (i := i) r (by simpa using e)
      exact ⟨v, by simpa using h1, h2⟩
theorem DnA.getV {E : Hp} : ∀ {ds : List Dt} {vs : List V} {i : Nat} {v : V}, DnA K cl E vs ds → vs[i]? = some v → ∃ d, ds[i]? = some d ∧ Dn K cl E v d := fun {ds vs i v} h e => by
  have hl := h.length
  have hi : i < ds.length := by rw [← hl]; exact (List.getElem?_eq_some_iff.mp e).1
  obtain ⟨v', h1, h2⟩ := h.get (List.getElem?_eq_getElem hi)
  rw [e] at h1; cases h1
  exact ⟨_, List.getElem?_eq_getElem hi, h2⟩
theorem DnA.append {E : Hp} : ∀ {ds es : List Dt} {vs ws : List V}, DnA K cl E vs ds → DnA K cl E ws es → DnA K cl E (vs ++ ws) (ds ++ es)
  | [], _, _, _, h, g => by cases h; exact g
  | d :: ds, _, _, _, h, g => by
    cases h with
    | cons h r => exact .cons h (DnA.append r g)
theorem DnA.take {E : Hp} : ∀ {ds : List Dt} {vs : List V} (n : Nat), DnA K cl E vs ds → DnA K cl E (vs.take n) (ds.take n)
  | _, _, 0, _ => .nil
  | [], _, n + 1, h => by cases h; exact .nil
  | d :: ds, _, n + 1, h => by
    cases h with
    | cons h r => exact .cons h (DnA.take n r)
theorem DnA.drop {E : Hp} : ∀ {ds : List Dt} {vs : List V} (n : Nat), DnA K cl E vs ds → DnA K cl E (vs.drop n) (ds.drop n)
  | _, _, 0, h => h
  | [], _, n + 1, h => by cases h; exact .nil
  | d :: ds, _, n + 1, h => by
    cases h with
    | cons h r => exact DnA.drop n r
theorem DnA.set {E : Hp} {v : V} {d : Dt} (g : Dn K cl E v d) : ∀ {ds : List Dt} {vs : List V} (i : Nat), DnA K cl E vs ds → DnA K cl E (vs.set i v) (ds.set i d)
  | [], _, i, h => by cases h; exact .nil
  | e :: ds, _, 0, h => by
    cases h with
    | cons h r => exact .cons g r
  | e :: ds, _, i + 1, h => by
    cases h with
    | cons h r => exact .cons h (DnA.set g i r)
theorem DnA.one {E : Hp} {v : V} {d : Dt} (h : Dn K cl E v d) : DnA K cl E [v] [d] := .cons h .nil
theorem DnA.ints {E : Hp} : ∀ {ns : List Int} {vs : List V}, DnA K cl E vs (ns.map Dt.int) → vs = ns.map V.int
  | [], _, h => by cases h; rfl
  | n :: ns, _, h => by
    cases h with
    | cons h r => cases h; rw [DnA.ints r]; rfl
theorem DnA.of_ints {E : Hp} : ∀ (ns : List Int), DnA K cl E (ns.map V.int) (ns.map Dt.int)
  | [] => .nil
  | n :: ns => .cons (.int n) (DnA.of_ints ns)
theorem Dn.int_iff {E : Hp} {v : V} {i : Int} : Dn K cl E v (.int i) ↔ v = .int i := ⟨fun h => by cases h; rfl, fun h => h ▸ .int i⟩
mutual
theorem Dn.dp {E : Hp} : ∀ {d : Dt} {v : V} {p : PyData}, Dn K cl E v d → toPy d = some p → Dp K E v p
  | .non, _, _, h, e => by cases h; cases e; exact .non
  | .bl _, _, _, h, e => by cases h; cases e; exact .bl _
  | .int _, _, _, h, e => by cases h; cases e; exact .int _
  | .str _, _, _, h, e => by cases h; cases e; exact .str _
  | .lst ds, _, p, h, e => by
    cases h with
    | lst h r =>
      unfold toPy at e
      cases q : toPyA ds with
      | none => rw [q] at e; cases e
      | some ps => rw [q] at e; cases e; exact .lst (SqL.of h) (DnA.dp r q)
  | .tup ds, _, p, h, e => by
    cases h with
    | tup h r =>
      unfold toPy at e
      cases q : toPyA ds with
      | none => rw [q] at e; cases e
      | some ps => rw [q] at e; cases e; exact .tup (SqT.of h) (DnA.dp r q)
  | .cst ds, _, p, h, e => by
    cases h with
    | cst h r =>
      unfold toPy at e
      cases q : toPyA ds with
      | none => rw [q] at e; cases e
      | some ps => rw [q] at e; cases e; exact .tup h (DnA.dp r q)
  | .dct _, _, _, _, e => by cases e
  | .obj _ _, _, _, _, e => by cases e
  | .scr _, _, _, _, e => by cases e
theorem DnA.dp {E : Hp} : ∀ {ds : List Dt} {vs : List V} {ps : List PyData}, DnA K cl E vs ds → toPyA ds = some ps → DpAll K E vs ps
  | [], _, _, h, e => by cases h; cases e; exact .nil
  | d :: ds, _, ps, h, e => by
    cases h with
    | cons h r =>
      unfold toPyA at e
      cases q : toPy d with
      | none => rw [q] at e; cases e
      | some p =>
        cases q2 : toPyA ds with
        | none => rw [q, q2] at e; cases e
        | some ps' => rw [q, q2] at e; cases e; exact .cons (Dn.dp h q) (DnA.dp r q2)
end
end

/-- never changed -/
def Imm : HO → Prop
  | .tup _ => True
  | .frz _ _ => True
  | _ => False

section
variable {K : PySem.W.Frag} {cl : Str → Addr}
mutual
/-- a datum that can't change stands in whatever has the tuples -/
theorem Dn.imm {E H : Hp} (s : ∀ a o, E a = some o → Imm o → H a = some o) : ∀ {d : Dt} {v : V}, Dn K cl E v d → imm d = true → Dn K cl H v d
  | .non, _, h, _ => by cases h; exact .non
  | .bl _, _, h, _ => by cases h; exact .bl _
  | .int _, _, h, _ => by cases h; exact .int _
  | .str _, _, h, _ => by cases h; exact .str _
  | .lst ds, _, h, e => by cases e
  | .tup ds, _, h, e => by
    cases h with
    | tup h r => exact .tup (s _ _ h trivial) (DnA.imm s r e)
  | .cst ds, _, h, e => by
    cases h with
    | cst h r =>
      refine .cst ?_ (DnA.imm s r e)
      rcases h with (h | ⟨o, h⟩) | h
      · exact .inl (.inl (s _ _ h trivial))
      · exact .inl (.inr ⟨o, s _ _ h trivial⟩)
      · exact .inr h
  | .dct ds, _, h, e => by cases e
  | .obj c ds, _, h, e => by cases e
  | .scr _, _, h, e => by cases e
theorem DnA.imm {E H : Hp} (s : ∀ a o, E a = some o → Imm o → H a = some o) : ∀ {ds : List Dt} {vs : List V}, DnA K cl E vs ds → immA ds = true → DnA K cl H vs ds
  | [], _, h, _ => by cases h; exact .nil
  | d :: ds, _, h, e => by
    cases h with
    | cons h r =>
      unfold immA at e
      rw [Bool.and_eq_true] at e
      exact .cons (Dn.imm s h e.1) (DnA.imm s r e.2)
end
end

/-! ### the part E of the heap H that isn't changed any more -/
def NoTbl (E : Hp) : Prop := ∀ a ps, E a ≠ some (.tbl ps)
theorem NoTbl.up {E : Hp} (n : NoTbl E) {p : Addr} {o : HO} (h : ∀ ps, o ≠ .tbl ps) : NoTbl (upd E p o) := fun a ps e => by
  by_cases q : a = p
  · subst q; rw [upd_same] at e; cases e; exact h _ rfl
  · rw [upd_ne q] at e; exact n a ps e
structure Sb (E H : Hp) : Prop where
  sub : Sub E H
  nt : NoTbl E
  im : ∀ a o, H a = some o → Imm o → E a = some o
/-- what grows: all stays but the tables of code objects, which stay tables -/
def Up (H H' : Hp) : Prop := ∀ a o, H a = some o → H' a = some o ∨ ∃ ps ps', o = .tbl ps ∧ H' a = some (.tbl ps')
theorem Up.nt {H H' : Hp} (u : Up H H') {a : Addr} {o : HO} (h : H a = some o) (n : ∀ ps, o ≠ .tbl ps) : H' a = some o := by
  rcases u a o h with q | ⟨ps, _, e, _⟩
  · exact q
  · exact absurd e (n ps)
theorem Up.dom {H H' : Hp} (u : Up H H') {a : Addr} (h : H a ≠ none) : H' a ≠ none := by
  cases q : H a with
  | none => exact absurd q h
  | some o =>
    rcases u a o q with q | ⟨_, _, _, q⟩ <;> rw [q] <;> simp
theorem Up.of {H H' : Hp} (s : Sub H H') : Up H H' := fun a o h => .inl (s a o h)
theorem Up.trans {H H1 H2 : Hp} (a : Up H H1) (b : Up H1 H2) : Up H H2 := fun x o h => by
  rcases a x o h with q | ⟨ps, ps1, e, q⟩
  · exact b x o q
  · rcases b x _ q with q2 | ⟨_, ps2, _, q2⟩
    · exact .inr ⟨ps, _, e, q2⟩
    · exact .inr ⟨ps, _, e, q2⟩
/-- back from what can't change -/
theorem Up.imm {H H' : Hp} (u : Up H H') {a : Addr} {o o' : HO} (h : H a = some o) (h' : H' a = some o') (i : Imm o') : o' = o := by
  rcases u a o h with q | ⟨_, _, _, q⟩
  · rw [h'] at q; cases q; rfl
  · rw [h'] at q; cases q; exact i.elim
/-- the tables of code objects -/
def tbQ : Str := "all_lots.<locals>.<lambda>"
def Tb (H H' : Hp) : Prop := ∀ P, LamX.TabS H P tbQ → LamX.TabS H' P tbQ
theorem Tb.of {H H' : Hp} (s : Sub H H') : Tb H H' := fun P t => t.ext s
theorem Tb.trans {H H1 H2 : Hp} (a : Tb H H1) (b : Tb H1 H2) : Tb H H2 := fun P t => b P (a P t)
/-- an object that is no table and no code object is changed -/
theorem Tb.wr {H : Hp} {x : Addr} {o o' : HO} (h : H x = some o) (n1 : ∀ ps, o ≠ .tbl ps) (n2 : ∀ c q, o ≠ LamX.CodeO c q) : Tb H (upd H x o') := fun P ⟨ps, hP, ht, ha⟩ => by
  refine ⟨ps, ?_, ht, fun pos cv hc => ?_⟩
  · have : P ≠ x := fun z => by subst z; rw [h] at hP; cases hP; exact n1 _ rfl
    rw [upd_ne this]; exact hP
  · obtain ⟨c, e, hC⟩ := ha pos cv hc
    refine ⟨c, e, ?_⟩
    have : c ≠ x := fun z => by subst z; rw [h] at hC; cases hC; exact n2 _ _ rfl
    rw [upd_ne this]; exact hC
/-- both grow -/
structure Gr (E H E' H' : Hp) : Prop where
  ee : Sub E E'
  hh : Up H H'
  tb : Tb H H'
  nt : NoTbl E → NoTbl E'
  eh : Sub E' H'
  nw : ∀ a, H a ≠ none → E a = none → E' a = none
  im : ∀ a o, H a = none → H' a = some o → Imm o → E' a = some o
theorem Gr.refl {E H : Hp} (s : Sub E H) : Gr E H E H := ⟨Sub.refl _, .of (Sub.refl _), .of (Sub.refl _), id, s, fun _ _ h => h, fun a o h1 h2 _ => by rw [h1] at h2; cases h2⟩
theorem Gr.trans {E H E1 H1 E2 H2 : Hp} (a : Gr E H E1 H1) (b : Gr E1 H1 E2 H2) : Gr E H E2 H2 where
  ee := a.ee.trans b.ee
  hh := a.hh.trans b.hh
  tb := a.tb.trans b.tb
  nt := fun n => b.nt (a.nt n)
  eh := b.eh
  nw := fun x h1 h2 => b.nw x (a.hh.dom h1) (a.nw x h1 h2)
  im := fun x o h1 h2 h3 => by
    cases q : H1 x with
    | none => exact b.im x o q h2 h3
    | some u =>
      have := b.hh.imm q h2 h3
      subst this
      exact b.ee x _ (a.im x _ h1 q h3)
theorem Gr.sb {E H E' H' : Hp} (g : Gr E H E' H') (s : Sb E H) : Sb E' H' := ⟨g.eh, g.nt s.nt, fun a o h1 h2 => by
  cases q : H a with
  | none => exact g.im a o q h1 h2
  | some u =>
    have := g.hh.imm q h1 h2
    subst this
    exact g.ee a _ (s.im a _ q h2)⟩
theorem Gr.fresh {E H E' H' : Hp} (g : Gr E H E' H') {a : Addr} (h : H' a = none) : H a = none := by
  cases q : H a with
  | none => rfl
  | some o => exact absurd h (g.hh.dom (by rw [q]; simp))
theorem Sub.fresh {E H : Hp} (s : Sub E H) {a : Addr} (h : H a = none) : E a = none := by
  cases q : E a with
  | none => rfl
  | some o => rw [s a o q] at h; cases h
theorem Sub.up {H : Hp} {p : Addr} {o : HO} (h : H p = none) : Sub H (upd H p o) := fun a u e => by
  rw [upd_ne (ne_of_none e h)]; exact e
theorem Sub.up2 {E H : Hp} {p : Addr} {o : HO} (s : Sub E H) : Sub (upd E p o) (upd H p o) := fun a u e => by
  by_cases q : a = p
  · subst q; rw [upd_same] at e ⊢; exact e
  · rw [upd_ne q] at e ⊢; exact s a u e
/-- a new object that stands in both -/
theorem Gr.both {E H : Hp} {p : Addr} {o : HO} (s : Sub E H) (h : H p = none) (n : ∀ ps, o ≠ .tbl ps := by exact fun _ z => nomatch z) : Gr E H (upd E p o) (upd H p o) where
  ee := Sub.up (s.fresh h)
  hh := .of (Sub.up h)
  tb := .of (Sub.up h)
  nt := fun t => t.up n
  eh := s.up2
  nw := fun a h1 h2 => by
    have : a ≠ p := fun e => by rw [e] at h1; exact h1 h
    rw [upd_ne this]; exact h2
  im := fun a u h1 h2 h3 => by
    by_cases q : a = p
    · subst q; rw [upd_same] at h2 ⊢; exact h2
    · rw [upd_ne q] at h2; rw [h1] at h2; cases h2
/-- a new one that may change yet -/
theorem Gr.one {E H : Hp} {p : Addr} {o : HO} (s : Sub E H) (h : H p = none) (n : ¬ Imm o) : Gr E H E (upd H p o) where
  ee := Sub.refl _
  hh := .of (Sub.up h)
  tb := .of (Sub.up h)
  nt := id
  eh := s.trans (Sub.up h)
  nw := fun a h1 h2 => h2
  im := fun a u h1 h2 h3 => by
    by_cases q : a = p
    · subst q; rw [upd_same] at h2; cases h2; exact absurd h3 n
    · rw [upd_ne q] at h2; rw [h1] at h2; cases h2
/-- new ones that may change no more -/
theorem Gr.fix {E H E' H' : Hp} {p : Addr} {o : HO} (g : Gr E H E' H') (h : H p = none) (h' : H' p = some o) (n : E' p = none) (nt : ∀ ps, o ≠ .tbl ps) : Gr E H (upd E' p o) H' where
  ee := g.ee.trans (Sub.up n)
  hh := g.hh
  tb := g.tb
  nt := fun t => (g.nt t).up nt
  eh := fun a u e => by
    by_cases q : a = p
    · subst q; rw [upd_same] at e; rw [h', e]
    · rw [upd_ne q] at e; exact g.eh a u e
  nw := fun a h1 h2 => by
    have : a ≠ p := fun e => by rw [e] at h1; exact h1 h
    rw [upd_ne this]; exact g.nw a h1 h2
  im := fun a u h1 h2 h3 => by
    by_cases q : a = p
    · subst q; rw [upd_same, ← h', h2]
    · rw [upd_ne q]; exact g.im a u h1 h2 h3
/-- all that stands but the tables -/
def noT (H : Hp) : Hp := fun a => match H a with
  | some (.tbl _) => none
  | o => o
theorem noT_sub (H : Hp) : Sub (noT H) H := fun a o e => by
  unfold noT at e
  split at e
  · cases e
  · exact e
theorem noT_of {H : Hp} {a : Addr} {o : HO} (h : H a = some o) (n : ∀ ps, o ≠ .tbl ps) : noT H a = some o := by
  unfold noT
  split
  · rename_i ps q; rw [h] at q; cases q; exact absurd rfl (n ps)
  · exact h
theorem Imm.nt {o : HO} (i : Imm o) (ps : Array Value) : o ≠ .tbl ps := fun e => by subst e; exact i.elim
theorem noT_no (H : Hp) : NoTbl (noT H) := fun a ps e => by
  unfold noT at e
  split at e
  · cases e
  · rename_i q; exact q ps e
theorem noT_sb (H : Hp) : Sb (noT H) H := ⟨noT_sub H, noT_no H, fun a o h i => noT_of h i.nt⟩
/-- a callee that took the whole heap for unchanging -/
def back (E H E' : Hp) : Hp := fun a => match H a with
  | none => E' a
  | some _ => E a
theorem Gr.back {E H E' H' : Hp} (s : Sb E H) (g : Gr (noT H) H E' H') : Gr E H (back E H E') H' where
  ee := fun a o e => by unfold Dl.back; rw [s.sub a o e]; exact e
  hh := g.hh
  tb := g.tb
  nt := fun t a ps e => by
    unfold Dl.back at e
    cases q : H a with
    | none => rw [q] at e; exact g.nt (noT_no H) a ps e
    | some u => rw [q] at e; exact t a ps e
  eh := fun a o e => by
    unfold Dl.back at e
    cases q : H a with
    | none => rw [q] at e; exact g.eh a o e
    | some u =>
      rw [q] at e
      exact g.hh.nt (s.sub a o e) fun ps z => s.nt a ps (by rw [← z]; exact e)
  nw := fun a h1 h2 => by
    unfold Dl.back
    cases q : H a with
    | none => exact absurd q h1
    | some u => exact h2
  im := fun a o h1 h2 h3 => by
    unfold Dl.back; rw [h1]; exact g.im a o h1 h2 h3
theorem back_imm {K : PySem.W.Frag} {cl : Str → Addr} {E H E' H' : Hp} (s : Sb E H) (g : Gr (noT H) H E' H') {v : V} {d : Dt} (h : Dn K cl E' v d) (i : imm d = true) : Dn K cl (back E H E') v d :=
  h.imm (fun a o e io => by
    unfold Dl.back
    cases q : H a with
    | none => exact e
    | some u =>
      have := g.hh.imm q (g.eh a o e) io
      subst this
      exact s.im a _ q io) i

/-! ### the one table of code objects of the text: that of the def all_lots -/
def TbOk (cl : Str → Addr) (H : Hp) : Prop := LamX.TabS H (cl "<table>") tbQ
/-! ### slots -/
/-- pn: a thing at an address that is told -/
inductive Sl where
  | no | va (d : Dt) | ow (d : Dt) | pn (a : Addr) (d : Dt)
section
variable (K : PySem.W.Frag) (cl : Str → Addr)
/-- the list, dict or object at a, its parts unchanging -/
def Ow (E H : Hp) (a : Addr) : Dt → Prop
  | .lst ds => ∃ vs, H a = some (.lst vs) ∧ DnA K cl E vs ds
  | .dct ds => ∃ kvs, H a = some (.dT kvs) ∧ DnD K cl E kvs ds
  | .obj c ds => ∃ dx fs, H a = some (.ins (cl c) dx fs) ∧ DnF K cl E fs ds
  | _ => False
/-- an unchanging one, or an owned one -/
def Wk (E H : Hp) (v : V) (d : Dt) : Prop := Dn K cl E v d ∨ ∃ a, v = .ref a ∧ E a = none ∧ Ow K cl E H a d
/-- a new one -/
def Nw (H E' H' : Hp) (v : V) (d : Dt) : Prop := ∃ a, v = .ref a ∧ H a = none ∧ E' a = none ∧ Ow K cl E' H' a d
structure Rl (E0 H0 E H : Hp) (σ : L2.St) (ρ : List Sl) : Prop where
  sb0 : Sb E0 H0
  tb0 : TbOk cl H0
  gr : Gr E0 H0 E H
  len : ρ.length = σ.length
  va : ∀ (i : Nat) d, ρ[i]? = some (.va d) → ∃ v, σ[i]? = some (some v) ∧ Dn K cl E v d
  ow : ∀ (i : Nat) d, ρ[i]? = some (.ow d) → ∃ a, σ[i]? = some (some (.ref a)) ∧ H0 a = none ∧ E a = none ∧ Ow K cl E H a d
  ne : ∀ (i j : Nat) d e a, i ≠ j → ρ[i]? = some (.ow d) → ρ[j]? = some (.ow e) → σ[i]? = some (some (.ref a)) → σ[j]? ≠ some (some (.ref a))
  pn : ∀ (i : Nat) a d, ρ[i]? = some (.pn a d) → σ[i]? = some (some (.ref a)) ∧ Dn K cl E (.ref a) d
end
section
variable {K : PySem.W.Frag} {cl : Str → Addr} {E0 H0 E H E' H' : Hp} {σ : L2.St} {ρ : List Sl} {a : Addr} {v : V} {d : Dt}
theorem Rl.sb (r : Rl K cl E0 H0 E H σ ρ) : Sb E H := r.gr.sb r.sb0
theorem Rl.tb (r : Rl K cl E0 H0 E H σ ρ) : TbOk cl H := r.gr.tb _ r.tb0
theorem Ow.mono (h : Ow K cl E H a d) (e : Sub E E') (k : Sub H H') : Ow K cl E' H' a d := by
  cases d with
  | lst ds => obtain ⟨vs, h1, h2⟩ := h; exact ⟨vs, k _ _ h1, h2.mono e⟩
  | dct ds => obtain ⟨vs, h1, h2⟩ := h; exact ⟨vs, k _ _ h1, h2.mono e⟩
  | obj c ds => obtain ⟨dx, vs, h1, h2⟩ := h; exact ⟨dx, vs, k _ _ h1, h2.mono e⟩
  | _ => exact h.elim
theorem Ow.there' (h : Ow K cl E H a d) : ∃ o, H a = some o ∧ ¬ Imm o ∧ (∀ ps, o ≠ .tbl ps) ∧ ∀ c q, o ≠ LamX.CodeO c q := by
  cases d with
  | lst ds => obtain ⟨vs, h1, h2⟩ := h; exact ⟨_, h1, fun z => z, fun _ z => (nomatch z), fun _ _ z => nomatch z⟩
  | dct ds => obtain ⟨vs, h1, h2⟩ := h; exact ⟨_, h1, fun z => z, fun _ z => (nomatch z), fun _ _ z => nomatch z⟩
  | obj c ds => obtain ⟨dx, vs, h1, h2⟩ := h; exact ⟨_, h1, fun z => z, fun _ z => (nomatch z), fun _ _ z => nomatch z⟩
  | _ => exact h.elim
theorem Ow.there (h : Ow K cl E H a d) : ∃ o, H a = some o ∧ ¬ Imm o := by
  cases d with
  | lst ds => obtain ⟨vs, h1, h2⟩ := h; exact ⟨_, h1, fun z => z⟩
  | dct ds => obtain ⟨vs, h1, h2⟩ := h; exact ⟨_, h1, fun z => z⟩
  | obj c ds => obtain ⟨dx, vs, h1, h2⟩ := h; exact ⟨_, h1, fun z => z⟩
  | _ => exact h.elim
theorem Ow.up (h : Ow K cl E H a d) (e : Sub E E') (k : Up H H') : Ow K cl E' H' a d := by
  cases d with
  | lst ds => obtain ⟨vs, h1, h2⟩ := h; exact ⟨vs, k.nt h1 (fun _ z => nomatch z), h2.mono e⟩
  | dct ds => obtain ⟨vs, h1, h2⟩ := h; exact ⟨vs, k.nt h1 (fun _ z => nomatch z), h2.mono e⟩
  | obj c ds => obtain ⟨dx, vs, h1, h2⟩ := h; exact ⟨dx, vs, k.nt h1 (fun _ z => nomatch z), h2.mono e⟩
  | _ => exact h.elim
/-- .. read off where it stands -/
theorem Ow.dn {G : Hp} (h : Ow K cl E H a d) (e : Sub E G) (k : ∀ o, H a = some o → G a = some o) : Dn K cl G (.ref a) d := by
  cases d with
  | lst ds => obtain ⟨vs, h1, h2⟩ := h; exact .lst (k _ h1) (h2.mono e)
  | dct ds => obtain ⟨vs, h1, h2⟩ := h; exact .dct (.inl (k _ h1)) (h2.mono e)
  | obj c ds => obtain ⟨dx, vs, h1, h2⟩ := h; exact .obj (k _ h1) (h2.mono e)
  | _ => exact h.elim
theorem Wk.full (h : Wk K cl E H v d) (s : Sub E H) : Dn K cl H v d := by
  rcases h with h | ⟨a, rfl, _, h⟩
  · exact h.mono s
  · exact h.dn s fun _ q => q
theorem Gr.nw' (g : Gr E H E' H') (h : ∃ o, H a = some o) (n : E a = none) : E' a = none := by
  obtain ⟨o, h⟩ := h
  exact g.nw a (by rw [h]; simp) n
theorem Wk.mono (h : Wk K cl E H v d) (g : Gr E H E' H') : Wk K cl E' H' v d := by
  rcases h with h | ⟨a, rfl, n, h⟩
  · exact .inl (h.mono g.ee)
  · obtain ⟨o, ho, _⟩ := h.there
    exact .inr ⟨a, rfl, g.nw' ⟨o, ho⟩ n, h.up g.ee g.hh⟩
theorem Rl.grow (r : Rl K cl E0 H0 E H σ ρ) (g : Gr E H E' H') : Rl K cl E0 H0 E' H' σ ρ where
  sb0 := r.sb0
  tb0 := r.tb0
  gr := r.gr.trans g
  len := r.len
  va := fun i d h => let ⟨v, h1, h2⟩ := r.va i d h; ⟨v, h1, h2.mono g.ee⟩
  ow := fun i d h => by
    obtain ⟨a, h1, h2, h3, h4⟩ := r.ow i d h
    obtain ⟨o, ho, _⟩ := h4.there
    exact ⟨a, h1, h2, g.nw' ⟨o, ho⟩ h3, h4.up g.ee g.hh⟩
  ne := r.ne
  pn := fun i a d h => let ⟨h1, h2⟩ := r.pn i a d h; ⟨h1, h2.mono g.ee⟩
theorem DnA.wk : ∀ {ds : List Dt} {vs : List V}, DnA K cl E vs ds → Paired (Wk K cl E H) vs ds
  | [], _, h => by cases h; exact .nil
  | d :: ds, _, h => by
    cases h with
    | cons h r => exact .cons (.inl h) (DnA.wk r)
end
end Dl
namespace Dl
open PySem L2

abbrev Ev := List Sl → Rs Dt
abbrev Tv := List Sl → Rs Bool
abbrev Av := List Sl → Rs (List Dt)
/-- what a statement comes to -/
inductive Ro where
  | st | nx (ρ : List Sl) | bk (ρ : List Sl) | ct (ρ : List Sl) | rt (d : Dt) | ex (n : Str) (ρ : List Sl)
abbrev Sv := List Sl → Ro
abbrev Rel := Hp → Hp → V → Dt → Prop
abbrev Rl4 := Hp → Hp → Hp → Hp → V → Dt → Prop

section
variable (K : PySem.W.Frag) (cl : Str → Addr)
/-- the answer r at (E, H) with what follows k -/
def An {α : Type} (W : L2.WX) (σ : L2.St) (E H : Hp) (r : Rs α) (k : α → Prop) : Prop := match r with
  | .st => False
  | .ok a => k a
  | .ex n => ∀ E' H', Gr E H E' H' → W (.ref (cl n)) none σ H'
def tG (W : L2.WX) (S : Rl4) (f : Ev) : TE := fun σ H Q => ∃ E0 H0 E ρ, Rl K cl E0 H0 E H σ ρ ∧ An cl W σ E H (f ρ) fun d => ∀ v E' H', Gr E H E' H' → S E H E' H' v d → Q v H'
abbrev tR (W : L2.WX) (R : Rel) (f : Ev) : TE := tG K cl W (fun _ _ E' H' v d => R E' H' v d) f
abbrev tD (W : L2.WX) (f : Ev) : TE := tR K cl W (fun E' _ v d => Dn K cl E' v d) f
abbrev tW (W : L2.WX) (f : Ev) : TE := tR K cl W (Wk K cl) f
abbrev tN (W : L2.WX) (f : Ev) : TE := tG K cl W (fun _ H E' H' v d => Nw K cl H E' H' v d) f
def tT (W : L2.WX) (t : Tv) : TT := fun σ H Q => ∃ E0 H0 E ρ, Rl K cl E0 H0 E H σ ρ ∧ An cl W σ E H (t ρ) fun b => ∀ E' H', Gr E H E' H' → Q b H'
def tA (W : L2.WX) (R : Rel) (f : Av) : TA := fun σ H Q => ∃ E0 H0 E ρ, Rl K cl E0 H0 E H σ ρ ∧ An cl W σ E H (f ρ) fun ds => ∀ vs E' H', Gr E H E' H' → Paired (R E' H') vs ds → Q vs H'
def Ros (W : L2.WX) (D : Ends) (E0 H0 E : Hp) : Ro → Prop
  | .st => False
  | .nx ρ' => ∀ σ' E' H', Rl K cl E0 H0 E' H' σ' ρ' → Sub E E' → D.nx σ' H'
  | .bk ρ' => ∀ σ' E' H', Rl K cl E0 H0 E' H' σ' ρ' → Sub E E' → D.bk σ' H'
  | .ct ρ' => ∀ σ' E' H', Rl K cl E0 H0 E' H' σ' ρ' → Sub E E' → D.ct σ' H'
  | .rt d => ∀ v E' H', Gr E0 H0 E' H' → Dn K cl E' v d → D.rt v H'
  | .ex n ρ' => ∀ σ' E' H', Rl K cl E0 H0 E' H' σ' ρ' → Sub E E' → W (.ref (cl n)) none σ' H'
def tS (W : L2.WX) (g : Sv) : TS := fun D σ H => ∃ E0 H0 E ρ, Rl K cl E0 H0 E H σ ρ ∧ Ros K cl W D E0 H0 E (g ρ)
/-- a relation that stays as both heaps grow -/
def Mo (R : Rel) : Prop := ∀ E H E' H' v d, R E H v d → Gr E H E' H' → R E' H' v d
def Co (S : Rl4) : Prop := ∀ E H E1 H1 E' H' v d, Gr E H E1 H1 → S E1 H1 E' H' v d → S E H E' H' v d
end

section
variable {K : PySem.W.Frag} {cl : Str → Addr} {X : Cx} {W : L2.WX} {R R1 R2' : Rel} {S : Rl4}
theorem moD : Mo (fun E _ v d => Dn K cl E v d) := fun _ _ _ _ _ _ h g => h.mono g.ee
theorem moW : Mo (Wk K cl) := fun _ _ _ _ _ _ h g => h.mono g
theorem coR : Co (fun _ _ E' H' v d => R E' H' v d) := fun _ _ _ _ _ _ _ _ _ h => h
theorem coN : Co (fun _ H E' H' v d => Nw K cl H E' H' v d) := fun _ _ _ _ _ _ _ _ g ⟨a, h1, h2, h3⟩ => ⟨a, h1, g.fresh h2, h3⟩
theorem An.bind {α β : Type} {σ : L2.St} {E H : Hp} {r : Rs α} {f : α → Rs β} {k : β → Prop} (h : An cl W σ E H (r.bind f) k) : An cl W σ E H r fun a => An cl W σ E H (f a) k := by
  cases r with
  | st => exact h
  | ok a => exact h
  | ex n => exact h
theorem An.grow {α : Type} {σ : L2.St} {E H E1 H1 : Hp} {r : Rs α} {k k' : α → Prop} (h : An cl W σ E H r k) (g : Gr E H E1 H1) (i : ∀ a, k a → k' a) : An cl W σ E1 H1 r k' := by
  cases r with
  | st => exact h
  | ok a => exact i a h
  | ex n => exact fun E' H' g' => h E' H' (g.trans g')
theorem An.imp {α : Type} {σ : L2.St} {E H : Hp} {r : Rs α} {k k' : α → Prop} (h : An cl W σ E H r k) (i : ∀ a, k a → k' a) : An cl W σ E H r k' := by
  cases r with
  | st => exact h
  | ok a => exact i a h
  | ex n => exact h
theorem An.ofO {α : Type} {σ : L2.St} {E H : Hp} {o : Option α} {k : α → Prop} (h : An cl W σ E H (ofO o) k) : ∃ a, o = some a ∧ k a := by
  cases o with
  | none => exact h.elim
  | some a => exact ⟨a, rfl, h⟩
theorem PE.imp {e : Expr} {t t' : TE} (h : PE X e t) (i : ∀ σ H Q, t' σ H Q → t σ H Q) : PE X e t' := ⟨fun pins s σ H Q I q => h.run pins s σ H Q I (i σ H Q q)⟩
theorem PT.imp {e : Expr} {t t' : TT} (h : PT X e t) (i : ∀ σ H Q, t' σ H Q → t σ H Q) : PT X e t' := ⟨fun pins s σ H Q I q => h.run pins s σ H Q I (i σ H Q q)⟩
theorem PW.imp {e : Expr} {t t' : TT} (h : PW X e t) (i : ∀ σ H Q, t' σ H Q → t σ H Q) : PW X e t' := ⟨fun wh pins s σ H Q I q => h.run wh pins s σ H Q I (i σ H Q q)⟩
theorem PA.imp {e : List Expr} {t t' : TA} (h : PA X e t) (i : ∀ σ H Q, t' σ H Q → t σ H Q) : PA X e t' := ⟨fun p pins s σ H Q I q => h.run p pins s σ H Q I (i σ H Q q)⟩
theorem PS.imp {e : Stmt} {t t' : TS} (h : PS X e t) (i : ∀ D σ H, t' D σ H → t D σ H) : PS X e t' := ⟨fun pins s σ H D I q => h.run pins s σ H D I (i D σ H q)⟩
theorem PSs.imp {e : List Stmt} {t t' : TS} (h : PSs X e t) (i : ∀ D σ H, t' D σ H → t D σ H) : PSs X e t' := ⟨fun pins s σ H D I q => h.run pins s σ H D I (i D σ H q)⟩
theorem PI.imp {tg e : Expr} {t t' : TI} (h : PI X tg e t) (i : ∀ σ H Q, t' σ H Q → t σ H Q) : PI X tg e t' := ⟨fun pins s σ H Q I q => h.run pins s σ H Q I (i σ H Q q)⟩
theorem PG.imp {e : Expr} {t t' : TG} (h : PG X e t) (i : ∀ v σ H Q, t' v σ H Q → t v σ H Q) : PG X e t' := ⟨fun pins s σ H v u Q I r q => h.run pins s σ H v u Q I r (i v σ H Q q)⟩

/-! ### turning one kind of reading into another -/
theorem d_w {e : Expr} {f : Ev} (h : PE X e (tD K cl W f)) : PE X e (tW K cl W f) := PE.imp h fun σ H Q ⟨E0, H0, E, ρ, r, a⟩ => ⟨E0, H0, E, ρ, r, a.imp fun d k v E' H' g s => k v E' H' g (.inl s)⟩
theorem n_w {e : Expr} {f : Ev} (h : PE X e (tN K cl W f)) : PE X e (tW K cl W f) := PE.imp h fun σ H Q ⟨E0, H0, E, ρ, r, a⟩ => ⟨E0, H0, E, ρ, r, a.imp fun d k v E' H' g ⟨b, h1, h2, h3, h4⟩ => k v E' H' g (.inr ⟨b, h1, h3, h4⟩)⟩
theorem Ow.fix {E H : Hp} {a : Addr} {d : Dt} (h : Ow K cl E H a d) (n : E a = none) : ∃ o, H a = some o ∧ (∀ ps, o ≠ .tbl ps) ∧ Dn K cl (upd E a o) (.ref a) d := by
  obtain ⟨o, ho, _, nt, _⟩ := h.there'
  refine ⟨o, ho, nt, ?_⟩
  exact h.dn (G := upd E a o) (Sub.up n) fun u hu => by rw [ho] at hu; cases hu; exact upd_same
theorem n_d {e : Expr} {f : Ev} (h : PE X e (tN K cl W f)) : PE X e (tD K cl W f) := PE.imp h fun σ H Q ⟨E0, H0, E, ρ, r, a⟩ => ⟨E0, H0, E, ρ, r, a.imp fun d k v E' H' g ⟨b, h1, h2, h3, h4⟩ => by
  obtain ⟨o, ho, nt, hd⟩ := h4.fix h3
  subst h1
  exact k _ _ H' (g.fix h2 ho h3 nt) hd⟩
/-- the value of an expression that stuck is nothing claimed -/
theorem pe_st {e : Expr} : PE X e (tG K cl W S fun _ => .st) := ⟨fun _ _ _ _ _ _ ⟨_, _, _, _, _, h⟩ => h.elim⟩

/-! ### operators -/
@[simp] def c1 (o : Dt → Option Dt) (f : Ev) : Ev := fun ρ => (f ρ).bind fun x => ofO (o x)
@[simp] def c2 (o : Dt → Dt → Option Dt) (f g : Ev) : Ev := fun ρ => (f ρ).bind fun x => (g ρ).bind fun y => ofO (o x y)
theorem bin_ {r : R2} {o : Dt → Dt → Option Dt} {f g : Ev} (m1 : Mo R1) (c : Co S)
    (hr : ∀ E H v w x y z, Sb E H → R1 E H v x → R2' E H w y → o x y = some z → ∀ Q : VK, (∀ u E' H', Gr E H E' H' → S E H E' H' u z → Q u H') → r v w H Q) (σ : L2.St) (H : Hp) (Q : VK)
    (h : tG K cl W S (c2 o f g) σ H Q) : tOp r (tR K cl W R1 f) (tR K cl W R2' g) σ H Q := by
  obtain ⟨E0, H0, E, ρ, rl, a⟩ := h
  refine ⟨E0, H0, E, ρ, rl, An.imp (An.bind a) fun x a1 v E1 H1 g1 s1 => ?_⟩
  refine ⟨E0, H0, E1, ρ, rl.grow g1, (An.bind a1).grow g1 fun y a2 w E2 H2 g2 s2 => ?_⟩
  obtain ⟨z, hz, k⟩ := An.ofO a2
  exact hr E2 H2 v w x y z ((rl.grow g1).grow g2).sb (m1 _ _ _ _ _ _ s1 g2) s2 hz Q fun u E' H' g3 s3 => k u E' H' ((g1.trans g2).trans g3) (c _ _ _ _ _ _ _ _ (g1.trans g2) s3)
theorem un_ {r : V → Hp → VK → Prop} {o : Dt → Option Dt} {f : Ev} (c : Co S)
    (hr : ∀ E H v x z, Sb E H → R1 E H v x → o x = some z → ∀ Q : VK, (∀ u E' H', Gr E H E' H' → S E H E' H' u z → Q u H') → r v H Q) (σ : L2.St) (H : Hp) (Q : VK)
    (h : tG K cl W S (c1 o f) σ H Q) : tUn r (tR K cl W R1 f) σ H Q := by
  obtain ⟨E0, H0, E, ρ, rl, a⟩ := h
  refine ⟨E0, H0, E, ρ, rl, An.imp (An.bind a) fun x a1 v E1 H1 g1 s1 => ?_⟩
  obtain ⟨z, hz, k⟩ := An.ofO a1
  exact hr E1 H1 v x z (rl.grow g1).sb s1 hz Q fun u E' H' g3 s3 => k u E' H' (g1.trans g3) (c _ _ _ _ _ _ _ _ g1 s3)
/-- what an operator that makes nothing new gives -/
theorem same_ {E H : Hp} {v : V} {z : Dt} {Q : VK} (sb : Sb E H) (h : Dn K cl E v z) (k : ∀ u E' H', Gr E H E' H' → Dn K cl E' u z → Q u H') : Q v H := k v E H (Gr.refl sb.sub) h

/-! ### names and constants -/
@[simp] def cV (i : Nat) : Ev := fun ρ => match ρ[i]? with
  | some (.va d) => .ok d
  | some (.pn _ d) => .ok d
  | _ => .st
@[simp] def cVw (i : Nat) : Ev := fun ρ => match ρ[i]? with
  | some (.va d) => .ok d
  | some (.ow d) => .ok d
  | some (.pn _ d) => .ok d
  | _ => .st
@[simp] def cK (d : Dt) : Ev := fun _ => .ok d
theorem d_var {e : Expr} {i : Nat} (h : PE X e (tVar i)) : PE X e (tD K cl W (cV i)) := PE.imp h fun σ H Q ⟨E0, H0, E, ρ, r, a⟩ => by
  unfold cV at a
  split at a
  · rename_i d q
    obtain ⟨v, h1, h2⟩ := r.va i d q
    exact ⟨v, h1, a v E H (Gr.refl r.sb.sub) h2⟩
  · rename_i p d q
    obtain ⟨h1, h2⟩ := r.pn i p d q
    exact ⟨_, h1, a _ E H (Gr.refl r.sb.sub) h2⟩
  · exact a.elim
theorem w_var {e : Expr} {i : Nat} (h : PE X e (tVar i)) : PE X e (tW K cl W (cVw i)) := PE.imp h fun σ H Q ⟨E0, H0, E, ρ, r, a⟩ => by
  unfold cVw at a
  split at a
  · rename_i d q
    obtain ⟨v, h1, h2⟩ := r.va i d q
    exact ⟨v, h1, a v E H (Gr.refl r.sb.sub) (.inl h2)⟩
  · rename_i d q
    obtain ⟨b, h1, h2, h3, h4⟩ := r.ow i d q
    exact ⟨_, h1, a _ E H (Gr.refl r.sb.sub) (.inr ⟨b, rfl, h3, h4⟩)⟩
  · rename_i p d q
    obtain ⟨h1, h2⟩ := r.pn i p d q
    exact ⟨_, h1, a _ E H (Gr.refl r.sb.sub) (.inl h2)⟩
  · exact a.elim
theorem d_const {e : Expr} {v : V} {d : Dt} (h : PE X e (tC v)) (hd : ∀ E, Dn K cl E v d) : PE X e (tD K cl W (cK d)) := PE.imp h fun σ H Q ⟨E0, H0, E, ρ, r, a⟩ => a v E H (Gr.refl r.sb.sub) (hd E)
theorem d_int {i : Int} {j pos} : PE X (.Constant (.int i) j pos) (tD K cl W (cK (.int i))) := d_const pe_int fun _ => .int i
theorem d_bl {b : Bool} {j pos} : PE X (.Constant (.bool b) j pos) (tD K cl W (cK (.bl b))) := d_const pe_bl fun _ => .bl b
theorem d_non {j pos} : PE X (.Constant .none j pos) (tD K cl W (cK .non)) := d_const pe_non fun _ => .non
theorem d_str {x : Str} {j pos} : PE X (.Constant (.str x) j pos) (tD K cl W (cK (.str x))) := d_const pe_str fun _ => .str x

/-! ### ints, and what else + and * take -/
def lim : Nat := 16000000
theorem lim_le {n : Nat} (h : n ≤ lim) : n ≤ sizeLine := by rw [sizeLine_eq]; unfold lim at h; omega
theorem lim_lt {n : Nat} (h : n ≤ lim) : n < sizeLine := by rw [sizeLine_eq]; unfold lim at h; omega
theorem new_lstD {E H : Hp} {vs : List V} {ds : List Dt} {l : Addr} (s : Sub E H) (h : DnA K cl E vs ds) (n : H l = none) : Gr E H (upd E l (.lst vs)) (upd H l (.lst vs)) ∧ Dn K cl (upd E l (.lst vs)) (.ref l) (.lst ds) :=
  ⟨Gr.both s n, .lst upd_same (h.mono (Sub.up (s.fresh n)))⟩
theorem new_tup {E H : Hp} {vs : List V} {ds : List Dt} {l : Addr} (s : Sub E H) (h : DnA K cl E vs ds) (n : H l = none) : Gr E H (upd E l (.tup vs)) (upd H l (.tup vs)) ∧ Dn K cl (upd E l (.tup vs)) (.ref l) (.tup ds) :=
  ⟨Gr.both s n, .tup upd_same (h.mono (Sub.up (s.fresh n)))⟩
theorem DnA.nil_iff {E : Hp} {ds : List Dt} {vs : List V} (h : DnA K cl E vs ds) : vs = [] ↔ ds = [] := by
  cases h <;> simp
theorem DnA.flat {E : Hp} {ds : List Dt} {vs : List V} (h : DnA K cl E vs ds) : ∀ n : Nat, DnA K cl E (List.replicate n vs).flatten (List.replicate n ds).flatten
  | 0 => .nil
  | n + 1 => by
    rw [List.replicate_succ, List.replicate_succ, List.flatten_cons, List.flatten_cons]
    exact h.append (h.flat n)
@[simp] def oAdd : Dt → Dt → Option Dt
  | .int i, .int j => some (.int (i + j))
  | .tup xs, .tup ys => if xs.length + ys.length ≤ lim then some (.tup (xs ++ ys)) else none
  | .str x, .str y => if x.length + y.length ≤ lim then some (.str (x ++ y)) else none
  | .lst xs, .lst ys => if xs.length + ys.length ≤ lim then some (.lst (xs ++ ys)) else none
  | _, _ => none
@[simp] def oSub : Dt → Dt → Option Dt
  | .int i, .int j => some (.int (i - j))
  | _, _ => none
def small (i : Int) : Bool := decide (-(2 ^ 64) < i) && decide (i < 2 ^ 64)
@[simp] def oMul : Dt → Dt → Option Dt
  | .int i, .int j => if small i || small j then some (.int (i * j)) else none
  | .lst xs, .int k => if (decide (-(2 ^ 63) ≤ k) && decide (k < 2 ^ 63)) && decide (xs.length * k.toNat ≤ lim) then some (.lst (List.replicate k.toNat xs).flatten) else none
  | .tup xs, .int k => if (!xs.isEmpty && decide (2 ≤ k)) && (decide (k ≤ 1000) && decide (xs.length ≤ 1000)) then some (.tup (List.replicate k.toNat xs).flatten) else none
  | _, _ => none
@[simp] def oDiv : Dt → Dt → Option Dt
  | .int i, .int j => if decide (0 < j) && decide (j < 1073741824) then some (.int (i / j)) else none
  | _, _ => none
@[simp] def oMod : Dt → Dt → Option Dt
  | .int i, .int j => if decide (0 < j) then some (.int (i % j)) else none
  | _, _ => none
@[simp] def oPow : Dt → Dt → Option Dt
  | .int i, .int j => if decide (0 ≤ j) && decide (j ≤ 1000000) && decide (i.natAbs < 2 ^ 64) then some (.int (i ^ j.toNat)) else none
  | _, _ => none
@[simp] def oNeg : Dt → Option Dt
  | .int i => some (.int (-i))
  | _ => none
variable {a b : Expr} {f g : Ev} {pos : Pos}
theorem d_add (ha : PE X a (tD X.K cl W f)) (hb : PE X b (tD X.K cl W g)) : PE X (.BinOp a .Add b pos) (tD X.K cl W (c2 oAdd f g)) :=
  PE.imp (pe_op (op_add.or (op_catA.or (op_add_str.or op_cat))) ha hb) (bin_ moD coR fun E H v w x y z sb h1 h2 e Q k => by
    unfold oAdd at e; split at e
    · cases e; cases h1; cases h2; exact .inl ⟨_, _, rfl, rfl, same_ sb (.int _) k⟩
    · split at e
      · rename_i xs ys hl
        cases e
        cases h1 with
        | tup p1 r1 =>
          cases h2 with
          | tup p2 r2 =>
            have hz := lim_le hl
            rw [← r1.length, ← r2.length] at hz
            refine .inr (.inl ⟨_, _, _, _, rfl, rfl, SqT.of (sb.sub _ _ p1), SqT.of (sb.sub _ _ p2), hz, fun e1 => ?_, fun _ e2 => ?_, fun _ _ p n => ?_⟩)
            · have := r1.nil_iff.mp e1; subst this
              exact same_ sb (.tup p2 r2) k
            · have := r2.nil_iff.mp e2; subst this
              rw [List.append_nil] at k
              exact same_ sb (.tup p1 r1) k
            · obtain ⟨g2, d2⟩ := new_tup sb.sub (r1.append r2) n
              exact k _ _ _ g2 d2
      · cases e
    · split at e
      · rename_i hl
        cases e; cases h1; cases h2
        exact .inr (.inr (.inl ⟨_, _, rfl, rfl, lim_le hl, same_ sb (.str _) k⟩))
      · cases e
    · split at e
      · rename_i xs ys hl
        cases e
        cases h1 with
        | lst p1 r1 =>
          cases h2 with
          | lst p2 r2 =>
            have hz := lim_le hl
            rw [← r1.length, ← r2.length] at hz
            refine .inr (.inr (.inr ⟨_, _, _, _, rfl, rfl, sb.sub _ _ p1, sb.sub _ _ p2, hz, fun p n => ?_⟩))
            obtain ⟨g2, d2⟩ := new_lstD sb.sub (r1.append r2) n
            exact k _ _ _ g2 d2
      · cases e
    · cases e)
theorem d_sub (ha : PE X a (tD K cl W f)) (hb : PE X b (tD K cl W g)) : PE X (.BinOp a .Sub b pos) (tD K cl W (c2 oSub f g)) :=
  PE.imp (pe_op op_sub ha hb) (bin_ moD coR fun E H v w x y z sb h1 h2 e Q k => by
    unfold oSub at e; split at e
    · cases e; cases h1; cases h2; exact ⟨_, _, rfl, rfl, same_ sb (.int _) k⟩
    · cases e)
theorem small_iff {i : Int} (h : small i = true) : -(2 ^ 64) < i ∧ i < 2 ^ 64 := by
  unfold small at h
  rw [Bool.and_eq_true] at h
  exact ⟨of_decide_eq_true h.1, of_decide_eq_true h.2⟩
theorem d_mul (ha : PE X a (tD X.K cl W f)) (hb : PE X b (tD X.K cl W g)) : PE X (.BinOp a .Mult b pos) (tD X.K cl W (c2 oMul f g)) :=
  PE.imp (pe_op (op_mul.or (op_rep.or op_repT)) ha hb) (bin_ moD coR fun E H v w x y z sb h1 h2 e Q k => by
    unfold oMul at e; split at e
    · split at e
      · rename_i hc
        cases e; cases h1; cases h2
        rw [Bool.or_eq_true] at hc
        exact .inl ⟨_, _, rfl, rfl, hc.elim (fun q => .inl (small_iff q)) (fun q => .inr (small_iff q)), same_ sb (.int _) k⟩
      · cases e
    · split at e
      · rename_i hc
        rw [Bool.and_eq_true, Bool.and_eq_true] at hc
        cases e; cases h2
        cases h1 with
        | lst p1 r1 =>
          refine .inr (.inl ⟨_, _, _, rfl, rfl, sb.sub _ _ p1, of_decide_eq_true hc.1.1, of_decide_eq_true hc.1.2, by rw [r1.length]; exact lim_le (of_decide_eq_true hc.2), fun p n => ?_⟩)
          obtain ⟨g2, d2⟩ := new_lstD sb.sub (r1.flat _) n
          exact k _ _ _ g2 d2
      · cases e
    · split at e
      · rename_i hc
        rw [Bool.and_eq_true, Bool.and_eq_true, Bool.and_eq_true] at hc
        cases e; cases h2
        cases h1 with
        | tup p1 r1 =>
          refine .inr (.inr ⟨_, _, _, rfl, rfl, SqT.of (sb.sub _ _ p1), fun e1 => ?_, of_decide_eq_true hc.1.2, of_decide_eq_true hc.2.1, by rw [r1.length]; exact of_decide_eq_true hc.2.2, fun p n => ?_⟩)
          · have := r1.nil_iff.mp e1; subst this; exact absurd hc.1.1 (by decide)
          · obtain ⟨g2, d2⟩ := new_tup sb.sub (r1.flat _) n
            exact k _ _ _ g2 d2
      · cases e
    · cases e)
theorem d_fdiv (ha : PE X a (tD K cl W f)) (hb : PE X b (tD K cl W g)) : PE X (.BinOp a .FloorDiv b pos) (tD K cl W (c2 oDiv f g)) :=
  PE.imp (pe_op op_fdiv ha hb) (bin_ moD coR fun E H v w x y z sb h1 h2 e Q k => by
    unfold oDiv at e; split at e
    · split at e
      · rename_i hc
        cases e; cases h1; cases h2
        rw [Bool.and_eq_true] at hc
        exact ⟨_, _, rfl, rfl, ⟨of_decide_eq_true hc.1, of_decide_eq_true hc.2⟩, same_ sb (.int _) k⟩
      · cases e
    · cases e)
theorem d_mod (ha : PE X a (tD K cl W f)) (hb : PE X b (tD K cl W g)) : PE X (.BinOp a .Mod b pos) (tD K cl W (c2 oMod f g)) :=
  PE.imp (pe_op op_mod ha hb) (bin_ moD coR fun E H v w x y z sb h1 h2 e Q k => by
    unfold oMod at e; split at e
    · split at e
      · rename_i hc
        cases e; cases h1; cases h2
        exact ⟨_, _, rfl, rfl, of_decide_eq_true hc, same_ sb (.int _) k⟩
      · cases e
    · cases e)
theorem d_pow (ha : PE X a (tD K cl W f)) (hb : PE X b (tD K cl W g)) : PE X (.BinOp a .Pow b pos) (tD K cl W (c2 oPow f g)) :=
  PE.imp (pe_op op_pow ha hb) (bin_ moD coR fun E H v w x y z sb h1 h2 e Q k => by
    unfold oPow at e; split at e
    · split at e
      · rename_i hc
        cases e; cases h1; cases h2
        rw [Bool.and_eq_true, Bool.and_eq_true] at hc
        exact ⟨_, _, rfl, rfl, ⟨of_decide_eq_true hc.1.1, of_decide_eq_true hc.1.2, of_decide_eq_true hc.2⟩, same_ sb (.int _) k⟩
      · cases e
    · cases e)
theorem d_neg (ha : PE X a (tD K cl W f)) : PE X (.UnaryOp .USub a pos) (tD K cl W (c1 oNeg f)) :=
  PE.imp (pe_un un_neg ha) (un_ coR fun E H v x z sb h1 e Q k => by
    unfold oNeg at e; split at e
    · cases e; cases h1; exact ⟨_, rfl, same_ sb (.int _) k⟩
    · cases e)

/-! ### comparisons as values -/
@[simp] def oCmp (p : Int → Int → Bool) : Dt → Dt → Option Dt
  | .int i, .int j => some (.bl (p i j))
  | _, _ => none
abbrev oLt := oCmp fun i j => decide (i < j)
abbrev oLe := oCmp fun i j => decide (i ≤ j)
abbrev oGt := oCmp fun i j => decide (j < i)
/-- a tuple's ints -/
@[simp] def intsOf : List Dt → Option (List Int)
  | [] => some []
  | .int i :: ds => (intsOf ds).map (i :: ·)
  | _ :: _ => none
/-- no less, as tuples of ints are -/
def geI : List Int → List Int → Bool
  | _, [] => true
  | [], _ :: _ => false
  | x :: xs, y :: ys => if x = y then geI xs ys else decide (y ≤ x)
@[simp] def oGe : Dt → Dt → Option Dt
  | .int i, .int j => some (.bl (decide (j ≤ i)))
  | .tup xs, .tup ys => (intsOf xs).bind fun ns => (intsOf ys).map fun ms => .bl (geI ns ms)
  | _, _ => none
theorem intsOf_eq : ∀ {ds : List Dt} {ns : List Int}, intsOf ds = some ns → ds = ns.map Dt.int
  | [], _, h => by cases h; rfl
  | .int i :: ds, ns, h => by
    have h : (intsOf ds).map (i :: ·) = some ns := h
    cases q : intsOf ds with
    | none => rw [q] at h; cases h
    | some ms => rw [q] at h; cases h; rw [intsOf_eq q]; rfl
  | .non :: _, _, h => nomatch h
  | .bl _ :: _, _, h => nomatch h
  | .str _ :: _, _, h => nomatch h
  | .lst _ :: _, _, h => nomatch h
  | .tup _ :: _, _, h => nomatch h
  | .dct _ :: _, _, h => nomatch h
  | .obj _ _ :: _, _, h => nomatch h
  | .scr _ :: _, _, h => nomatch h
  | .cst _ :: _, _, h => nomatch h
theorem lex_shift {e r : Nat → Bool} {z : Bool} : ∀ (k i : Nat), Ob.lexAt e r z (i + 1) k = Ob.lexAt (fun j => e (j + 1)) (fun j => r (j + 1)) z i k
  | 0, _ => rfl
  | k + 1, i => by
    rw [Ob.lexAt_succ, Ob.lexAt_succ, lex_shift k (i + 1)]
theorem lex_ge : ∀ (ns ms : List Int), Ob.lexAt (fun j => decide (ns.getD j 0 = ms.getD j 0)) (fun j => decide (ms.getD j 0 ≤ ns.getD j 0)) (decide (ms.length ≤ ns.length)) 0 (min ns.length ms.length) = geI ns ms
  | ns, [] => by simp [geI, Ob.lexAt]
  | [], m :: ms => by simp [geI, Ob.lexAt]
  | n :: ns, m :: ms => by
    have ih := lex_ge ns ms
    simp only [List.length_cons, Nat.add_min_add_right, Ob.lexAt_succ, Nat.add_le_add_iff_right]
    rw [lex_shift]
    simp only [List.getD_cons_zero, List.getD_cons_succ, decide_eq_true_eq, geI]
    by_cases q : n = m
    · rw [if_pos q, if_pos q]; exact ih
    · rw [if_neg q, if_neg q]
def rGeT (K : PySem.W.Frag) : R2 := fun x y H Q => ∃ (a b : Addr) (ns ms : List Int), x = .ref a ∧ y = .ref b ∧ SqT K H a (ns.map V.int) ∧ SqT K H b (ms.map V.int) ∧ Q (.bl (geI ns ms)) H
theorem op_geT (hu : X.A.units < cLine) : OpR X (compareOp .GtE) (rGeT X.K) := fun pins s σ H x y v u Q I rx ry ⟨a, b, ns, ms, ex, ey, ha, hb, q⟩ => by
  subst ex ey
  cases rx; cases ry
  obtain ⟨us, r1, p1, _⟩ := I.tuple ha
  obtain ⟨ws, r2, p2, _⟩ := I.tuple hb
  have i1 : PyProof.Rows.IntsAre us ns := Vals.ints r1
  have i2 : PyProof.Rows.IntsAre ws ms := Vals.ints r2
  have at_ : ∀ {us : List Value} {ns : List Int}, PyProof.Rows.IntsAre us ns → ∀ j (h1 : j < us.toArray.size), ∃ t, us.toArray[j] = .int (ns.getD j 0) t := fun i j h1 => i.int_at _ _ (by simp at h1; simp [h1])
  have R := Ob.RcOp.tuples_ge (A := X.A) (s := s) (e := fun j => decide (ns.getD j 0 = ms.getD j 0)) (r := fun j => decide (ms.getD j 0 ≤ ns.getD j 0)) p1 p2 hu
    (fun j h1 h2 => by
      obtain ⟨t, et⟩ := at_ i1 j h1
      obtain ⟨t', et'⟩ := at_ i2 j h2
      rw [et, et', show decide (ns.getD j 0 = ms.getD j 0) = (ns.getD j 0 == ms.getD j 0) by rw [Bool.eq_iff_iff]; simp]
      exact SeqAt.EqAt.int_int _ _ _ _)
    (fun j h1 h2 _ => by
      obtain ⟨t, et⟩ := at_ i1 j h1
      obtain ⟨t', et'⟩ := at_ i2 j h2
      rw [et, et']
      exact Ob.RcOp.ge_int _ _ _ _)
  have l1 : us.toArray.size = ns.length := by rw [List.size_toArray]; exact i1.length
  have l2 : ws.toArray.size = ms.length := by rw [List.size_toArray]; exact i2.length
  rw [l1, l2, show decide (ns.length ≥ ms.length) = decide (ms.length ≤ ns.length) from rfl, lex_ge] at R
  exact R X.prog X.w X.xe (EP X pins σ Q) ⟨.bl _, H, I, rfl, q⟩
theorem ge_ (σ : L2.St) (H : Hp) (Q : VK) (h : tD K cl W (c2 oGe f g) σ H Q) : tOp (fun x y H Q => rI0 (fun i j => .bl (decide (j ≤ i))) x y H Q ∨ rGeT K x y H Q) (tD K cl W f) (tD K cl W g) σ H Q :=
  bin_ moD coR (fun E H v w x y z sb h1 h2 e Q k => by
    unfold oGe at e; split at e
    · cases e; cases h1; cases h2; exact .inl ⟨_, _, rfl, rfl, same_ sb (.bl _) k⟩
    · rename_i xs ys
      cases q1 : intsOf xs with
      | none => rw [q1] at e; cases e
      | some ns =>
        cases q2 : intsOf ys with
        | none => rw [q1, q2] at e; cases e
        | some ms =>
          rw [q1, q2] at e; cases e
          have := intsOf_eq q1; subst this
          have := intsOf_eq q2; subst this
          cases h1 with
          | tup p1 r1 =>
            cases h2 with
            | tup p2 r2 =>
              have := r1.ints; subst this
              have := r2.ints; subst this
              exact .inr ⟨_, _, ns, ms, rfl, rfl, SqT.of (sb.sub _ _ p1), SqT.of (sb.sub _ _ p2), same_ sb (.bl _) k⟩
    · cases e) σ H Q h
theorem cmp_ {p : Int → Int → Bool} (σ : L2.St) (H : Hp) (Q : VK) (h : tD K cl W (c2 (oCmp p) f g) σ H Q) : tOp (rI0 fun i j => .bl (p i j)) (tD K cl W f) (tD K cl W g) σ H Q :=
  bin_ moD coR (fun E H v w x y z sb h1 h2 e Q k => by
    unfold oCmp at e; split at e
    · cases e; cases h1; cases h2; exact ⟨_, _, rfl, rfl, same_ sb (.bl _) k⟩
    · cases e) σ H Q h
theorem d_lt (ha : PE X a (tD K cl W f)) (hb : PE X b (tD K cl W g)) : PE X (.Compare a [.Lt] [b] pos) (tD K cl W (c2 oLt f g)) := PE.imp (pe_cmpR op_lt ha hb (nomark _)) cmp_
theorem d_le (ha : PE X a (tD K cl W f)) (hb : PE X b (tD K cl W g)) : PE X (.Compare a [.LtE] [b] pos) (tD K cl W (c2 oLe f g)) := PE.imp (pe_cmpR op_le ha hb (nomark _)) cmp_
theorem d_gt (ha : PE X a (tD K cl W f)) (hb : PE X b (tD K cl W g)) : PE X (.Compare a [.Gt] [b] pos) (tD K cl W (c2 oGt f g)) := PE.imp (pe_cmpR op_gt ha hb (nomark _)) cmp_
theorem d_ge (hu : X.A.units + 64 < cLine) (ha : PE X a (tD X.K cl W f)) (hb : PE X b (tD X.K cl W g)) : PE X (.Compare a [.GtE] [b] pos) (tD X.K cl W (c2 oGe f g)) := PE.imp (pe_cmpR (op_ge.or (op_geT (Nat.lt_of_le_of_lt (Nat.le_add_right _ _) hu))) ha hb (nomark _)) ge_
/-- equality: scalars, or data -/
@[simp] def scD : Dt → Option V
  | .non => some .non
  | .bl b => some (.bl b)
  | .int i => some (.int i)
  | .str x => some (.str x)
  | _ => none
def eqD (x y : Dt) : Option Bool := match scD x, scD y with
  | some v, some w => if scal v w then some (decide (v = w)) else none
  | _, _ => match toPy x, toPy y with
    | some p, some q => if SeqAt.shaped p && SeqAt.shaped q then some (PyData.eqv p q) else none
    | _, _ => none
def oEq (x y : Dt) : Option Dt := (eqD x y).map .bl
def oNe (x y : Dt) : Option Dt := (eqD x y).map fun b => .bl (!b)
theorem scD_dn {E : Hp} {d : Dt} {v w : V} (h : Dn K cl E v d) (e : scD d = some w) : v = w := by
  cases h <;> first | (cases e; rfl) | cases e
theorem eqD_cases {E H : Hp} {v w : V} {x y : Dt} {b : Bool} (s : Sub E H) (h1 : Wk K cl E H v x) (h2 : Wk K cl E H w y) (e : eqD x y = some b) :
    (scal v w = true ∧ b = decide (v = w)) ∨ ∃ p q, Dp K H v p ∧ Dp K H w q ∧ SeqAt.shaped p = true ∧ SeqAt.shaped q = true ∧ b = PyData.eqv p q := by
  have k1 := h1.full s
  have k2 := h2.full s
  unfold eqD at e
  split at e
  · rename_i v' w' q1 q2
    have e1 := scD_dn k1 q1
    have e2 := scD_dn k2 q2
    subst e1 e2
    split at e
    · rename_i hs; cases e; exact .inl ⟨hs, rfl⟩
    · cases e
  · split at e
    · rename_i p q q1 q2
      split at e
      · rename_i hs
        rw [Bool.and_eq_true] at hs
        cases e
        exact .inr ⟨p, q, k1.dp q1, k2.dp q2, hs.1, hs.2, rfl⟩
      · cases e
    · cases e
theorem eq_i (σ : L2.St) (H : Hp) (Q : VK) (h : tD K cl W (c2 oEq f g) σ H Q) : tOp (fun x y H Q => rEq x y H Q ∨ rEqD K x y H Q) (tW K cl W f) (tW K cl W g) σ H Q :=
  bin_ moW coR (fun E H v w x y z sb h1 h2 e Q k => by
    unfold oEq at e
    cases q : eqD x y with
    | none => rw [q] at e; cases e
    | some b =>
      rw [q] at e; cases e
      rcases eqD_cases sb.sub h1 h2 q with ⟨h, rfl⟩ | ⟨p, p2, a1, a2, a3, a4, rfl⟩
      · exact .inl ⟨h, same_ sb (.bl _) k⟩
      · exact .inr ⟨p, p2, a1, a2, a3, a4, same_ sb (.bl _) k⟩) σ H Q h
theorem ne_i (σ : L2.St) (H : Hp) (Q : VK) (h : tD K cl W (c2 oNe f g) σ H Q) : tOp (fun x y H Q => rNe x y H Q ∨ rNeD K x y H Q) (tW K cl W f) (tW K cl W g) σ H Q :=
  bin_ moW coR (fun E H v w x y z sb h1 h2 e Q k => by
    unfold oNe at e
    cases q : eqD x y with
    | none => rw [q] at e; cases e
    | some b =>
      rw [q] at e; cases e
      rcases eqD_cases sb.sub h1 h2 q with ⟨h, rfl⟩ | ⟨p, p2, a1, a2, a3, a4, rfl⟩
      · exact .inl ⟨h, same_ sb (.bl _) k⟩
      · exact .inr ⟨p, p2, a1, a2, a3, a4, same_ sb (.bl _) k⟩) σ H Q h
theorem d_eq (hu : X.A.units + 64 < cLine) (ha : PE X a (tW X.K cl W f)) (hb : PE X b (tW X.K cl W g)) : PE X (.Compare a [.Eq] [b] pos) (tD X.K cl W (c2 oEq f g)) := PE.imp (pe_cmpR (op_eq.or (op_eqD hu)) ha hb (nomark _)) eq_i
theorem d_ne (hu : X.A.units + 64 < cLine) (ha : PE X a (tW X.K cl W f)) (hb : PE X b (tW X.K cl W g)) : PE X (.Compare a [.NotEq] [b] pos) (tD X.K cl W (c2 oNe f g)) := PE.imp (pe_cmpR (op_ne.or (op_neD hu)) ha hb (nomark _)) ne_i
/-- is None -/
@[simp] def oIsN : Dt → Option Dt
  | .non => some (.bl true)
  | _ => some (.bl false)
@[simp] def oNotN : Dt → Option Dt
  | .non => some (.bl false)
  | _ => some (.bl true)
theorem isN_i (σ : L2.St) (H : Hp) (Q : VK) (h : tD K cl W (c1 oIsN f) σ H Q) : tIsN (tW K cl W f) σ H Q :=
  un_ (r := fun v H Q => Q (.bl (decide (v = .non))) H) coR (fun E H v x z sb h1 e Q k => by
    have h := h1.full sb.sub
    cases h <;> cases e <;> exact same_ sb (.bl _) k) σ H Q h
theorem notN_i (σ : L2.St) (H : Hp) (Q : VK) (h : tD K cl W (c1 oNotN f) σ H Q) : tNotN (tW K cl W f) σ H Q :=
  un_ (r := fun v H Q => Q (.bl (!decide (v = .non))) H) coR (fun E H v x z sb h1 e Q k => by
    have h := h1.full sb.sub
    cases h <;> cases e <;> exact same_ sb (.bl _) k) σ H Q h
theorem d_isN {j pos'} (ha : PE X a (tW K cl W f)) : PE X (.Compare a [.Is] [.Constant .none j pos'] pos) (tD K cl W (c1 oIsN f)) := PE.imp (pe_cmp (pc_isN ha) rfl) isN_i
theorem d_notN {j pos'} (ha : PE X a (tW K cl W f)) : PE X (.Compare a [.IsNot] [.Constant .none j pos'] pos) (tD K cl W (c1 oNotN f)) := PE.imp (pe_cmp (pc_notN ha) rfl) notN_i
end
end Dl
namespace Dl
open PySem L2
section
variable {K : PySem.W.Frag} {cl : Str → Addr} {X : Cx} {W : L2.WX} {R : Rel} {S : Rl4} {a b c e x : Expr} {es rest : List Expr} {f g h : Ev} {t u : Tv} {fa : Av} {pos p p2 : Pos}

/-! ### tests -/
@[simp] def cT (f : Ev) : Tv := fun ρ => (f ρ).bind fun d => match d with
  | .bl b => .ok b
  | _ => .st
@[simp] def cAnd (t u : Tv) : Tv := fun ρ => (t ρ).bind fun b => cond b (u ρ) (.ok false)
@[simp] def cOr (t u : Tv) : Tv := fun ρ => (t ρ).bind fun b => cond b (.ok true) (u ρ)
@[simp] def cNot (t : Tv) : Tv := fun ρ => (t ρ).bind fun b => .ok (!b)
@[simp] def cB (t : Tv) : Ev := fun ρ => (t ρ).bind fun b => .ok (.bl b)
@[simp] def truD : Dt → Option Bool
  | .non => some false
  | .bl b => some b
  | .int i => some (i != 0)
  | .str x => if x.length ≤ sizeLine then some ((x.length : Int) != 0) else none
  | .lst xs => some (!xs.isEmpty)
  | .tup xs => some (!xs.isEmpty)
  | _ => none
@[simp] def cTru (f : Ev) : Tv := fun ρ => (f ρ).bind fun d => ofO (truD d)
theorem t_val (h : PE X e (tD K cl W f)) (he : ∀ whole, isTrue e X.env whole = (do let v ← whole; standAt e.pos; holding [v] (truthy v)) := by intro _; rfl) : PT X e (tT K cl W (cT f)) :=
  PT.imp (pt_val h he) fun σ H Q ⟨E0, H0, E, ρ, r, an⟩ => ⟨E0, H0, E, ρ, r, (An.bind an).imp fun d k v E' H' g' s => by
    cases s <;> first | exact k.elim | exact ⟨_, rfl, k E' H' g'⟩⟩
theorem isEmpty_of {E : Hp} {vs : List V} {ds : List Dt} (h : DnA K cl E vs ds) : vs.isEmpty = ds.isEmpty := by
  cases ds with
  | nil => cases h; rfl
  | cons d ds => cases h; rfl
theorem t_tru (h : PE X e (tW X.K cl W f)) (he : ∀ whole, isTrue e X.env whole = (do let v ← whole; standAt e.pos; holding [v] (truthy v)) := by intro _; rfl) : PT X e (tT X.K cl W (cTru f)) :=
  PT.imp (pt_truth h he) fun σ H Q ⟨E0, H0, E, ρ, r, an⟩ => ⟨E0, H0, E, ρ, r, (An.bind an).imp fun d k v E' H' g' s => by
    have s := s.full g'.eh
    obtain ⟨b, hb, k⟩ := An.ofO k
    refine ⟨b, ?_, k E' H' g'⟩
    cases s with
    | non => cases hb; rfl
    | bl y => cases hb; rfl
    | int i => cases hb; rfl
    | str y =>
      have hb : (if y.length ≤ sizeLine then some ((y.length : Int) != 0) else none) = some b := hb
      by_cases hy : y.length ≤ sizeLine
      · rw [if_pos hy] at hb; cases hb; exact ⟨hy, rfl⟩
      · rw [if_neg hy] at hb; cases hb
    | lst hs hr => cases hb; exact .inl ⟨_, SqL.of hs, by rw [isEmpty_of hr]⟩
    | scr hs => cases hb
    | tup hs hr => cases hb; exact .inr (.inl ⟨_, SqT.of hs, by rw [isEmpty_of hr]⟩)
    | cst hs hr => cases hb
    | dct hs hr => cases hb
    | obj hs hr => cases hb⟩
theorem tru_of {H : Hp} {v : V} {d : Dt} {b : Bool} (s : Dn K cl H v d) (hb : truD d = some b) : TruV K v H b := by
  cases s with
  | non => cases hb; rfl
  | bl y => cases hb; rfl
  | int i => cases hb; rfl
  | str y =>
    have hb : (if y.length ≤ sizeLine then some ((y.length : Int) != 0) else none) = some b := hb
    by_cases hy : y.length ≤ sizeLine
    · rw [if_pos hy] at hb; cases hb; exact ⟨hy, rfl⟩
    · rw [if_neg hy] at hb; cases hb
  | lst hs hr => cases hb; exact .inl ⟨_, SqL.of hs, by rw [isEmpty_of hr]⟩
  | scr hs => cases hb
  | tup hs hr => cases hb; exact .inr (.inl ⟨_, SqT.of hs, by rw [isEmpty_of hr]⟩)
  | cst hs hr => cases hb
  | dct hs hr => cases hb
  | obj hs hr => cases hb
/-- not e as a value, by what e's truth is -/
theorem d_notT (h : PE X e (tW X.K cl W f)) : PE X (.UnaryOp .Not e pos) (tD X.K cl W (cB (cNot (cTru f)))) :=
  PE.imp (pe_notT h) fun σ H Q ⟨E0, H0, E, ρ, r, an⟩ => ⟨E0, H0, E, ρ, r, (An.bind (An.bind (An.bind an))).imp fun d k v E' H' g' s => by
    obtain ⟨b, hb, k⟩ := An.ofO k
    exact ⟨b, tru_of (s.full g'.eh) hb, k _ E' H' g' (.bl _)⟩⟩
theorem t_and1 (ha : PT X a (tT K cl W t)) : PW X (.BoolOp .And [a] pos) (tT K cl W t) := pw_and1 ha
theorem t_or1 (ha : PT X a (tT K cl W t)) : PW X (.BoolOp .Or [a] pos) (tT K cl W t) := pw_or1 ha
theorem t_and (ha : PT X a (tT K cl W t)) (hb : PW X (.BoolOp .And (b :: rest) pos) (tT K cl W u)) : PW X (.BoolOp .And (a :: b :: rest) pos) (tT K cl W (cAnd t u)) :=
  PW.imp (pw_and ha hb) fun σ H Q ⟨E0, H0, E, ρ, r, an⟩ => ⟨E0, H0, E, ρ, r, (An.bind an).imp fun d k E' H' g' => by
    cases d with
    | false => exact iteF (k E' H' g')
    | true => exact iteT ⟨E0, H0, E', ρ, r.grow g', An.grow k g' fun b k E2 H2 g2 => k E2 H2 (g'.trans g2)⟩⟩
theorem t_or (ha : PT X a (tT K cl W t)) (hb : PW X (.BoolOp .Or (b :: rest) pos) (tT K cl W u)) : PW X (.BoolOp .Or (a :: b :: rest) pos) (tT K cl W (cOr t u)) :=
  PW.imp (pw_or ha hb) fun σ H Q ⟨E0, H0, E, ρ, r, an⟩ => ⟨E0, H0, E, ρ, r, (An.bind an).imp fun d k E' H' g' => by
    cases d with
    | true => exact iteT (k E' H' g')
    | false => exact iteF ⟨E0, H0, E', ρ, r.grow g', An.grow k g' fun b k E2 H2 g2 => k E2 H2 (g'.trans g2)⟩⟩
theorem t_not (ha : PT X a (tT K cl W t)) : PT X (.UnaryOp .Not a pos) (tT K cl W (cNot t)) :=
  PT.imp (pt_not ha) fun σ H Q ⟨E0, H0, E, ρ, r, an⟩ => ⟨E0, H0, E, ρ, r, (An.bind an).imp fun d k E' H' g' => k E' H' g'⟩
/-- and, or, not of bools as values -/
@[simp] def cAndV (f g : Ev) : Ev := fun ρ => (cT f ρ).bind fun b => cond b (g ρ) (.ok (.bl false))
@[simp] def cOrV (f g : Ev) : Ev := fun ρ => (cT f ρ).bind fun b => cond b (.ok (.bl true)) (g ρ)
@[simp] def cNotV (f : Ev) : Ev := fun ρ => (cT f ρ).bind fun b => .ok (.bl (!b))
theorem bindT {α : Type} {σ : L2.St} {E H : Hp} {ρ : List Sl} {f : Ev} {F : Bool → Rs α} {k : α → Prop} (h : An cl W σ E H ((cT f ρ).bind F) k) : An cl W σ E H (f ρ) fun d => ∃ b, d = .bl b ∧ An cl W σ E H (F b) k := by
  unfold cT at h
  cases q : f ρ with
  | st => rw [q] at h; exact h.elim
  | ex n => rw [q] at h; exact h
  | ok d =>
    rw [q] at h
    cases d <;> first | exact h.elim | exact ⟨_, rfl, h⟩
theorem d_one {op} (h : PE X a (tG K cl W S f)) : PE X (.BoolOp op [a] pos) (tG K cl W S f) := pe_one h
theorem d_and (ha : PE X a (tD K cl W f)) (hb : PE X (.BoolOp .And (b :: rest) pos) (tD K cl W g)) : PE X (.BoolOp .And (a :: b :: rest) pos) (tD K cl W (cAndV f g)) :=
  PE.imp (pe_and ha hb) fun σ H Q ⟨E0, H0, E, ρ, r, an⟩ => ⟨E0, H0, E, ρ, r, (bindT an).imp fun d ⟨b, e, k⟩ v E' H' g' s => by
    subst e; cases s
    refine ⟨_, rfl, ?_⟩
    cases b with
    | false => exact iteF (k _ E' H' g' (.bl false))
    | true => exact iteT ⟨E0, H0, E', ρ, r.grow g', An.grow k g' fun b k v E2 H2 g2 s => k v E2 H2 (g'.trans g2) s⟩⟩
theorem d_or (ha : PE X a (tD K cl W f)) (hb : PE X (.BoolOp .Or (b :: rest) pos) (tD K cl W g)) : PE X (.BoolOp .Or (a :: b :: rest) pos) (tD K cl W (cOrV f g)) :=
  PE.imp (pe_or ha hb) fun σ H Q ⟨E0, H0, E, ρ, r, an⟩ => ⟨E0, H0, E, ρ, r, (bindT an).imp fun d ⟨b, e, k⟩ v E' H' g' s => by
    subst e; cases s
    refine ⟨_, rfl, ?_⟩
    cases b with
    | true => exact iteT (k _ E' H' g' (.bl true))
    | false => exact iteF ⟨E0, H0, E', ρ, r.grow g', An.grow k g' fun b k v E2 H2 g2 s => k v E2 H2 (g'.trans g2) s⟩⟩
theorem d_not (ha : PE X a (tD K cl W f)) : PE X (.UnaryOp .Not a pos) (tD K cl W (cNotV f)) :=
  PE.imp (pe_not ha) fun σ H Q ⟨E0, H0, E, ρ, r, an⟩ => ⟨E0, H0, E, ρ, r, (bindT an).imp fun d ⟨b, e, k⟩ v E' H' g' s => by
    subst e; cases s
    exact ⟨_, rfl, k _ E' H' g' (.bl _)⟩⟩
@[simp] def cIf (t : Tv) (f g : Ev) : Ev := fun ρ => (t ρ).bind fun b => cond b (f ρ) (g ρ)
theorem d_if (hc : PT X c (tT K cl W t)) (ha : PE X a (tG K cl W S f)) (hb : PE X b (tG K cl W S g)) (co : Co S) : PE X (.IfExp c a b pos) (tG K cl W S (cIf t f g)) :=
  PE.imp (pe_ifExp hc ha hb) fun σ H Q ⟨E0, H0, E, ρ, r, an⟩ => ⟨E0, H0, E, ρ, r, (An.bind an).imp fun d k E' H' g' => by
    cases d with
    | true => exact iteT ⟨E0, H0, E', ρ, r.grow g', An.grow k g' fun b k v E2 H2 g2 s => k v E2 H2 (g'.trans g2) (co _ _ _ _ _ _ _ _ g' s)⟩
    | false => exact iteF ⟨E0, H0, E', ρ, r.grow g', An.grow k g' fun b k v E2 H2 g2 s => k v E2 H2 (g'.trans g2) (co _ _ _ _ _ _ _ _ g' s)⟩⟩
/-- a test as a value where the expression is a comparison chain -/
@[simp] def cChain (o o' : Dt → Dt → Option Dt) (f g h : Ev) : Ev := fun ρ => (f ρ).bind fun x => (g ρ).bind fun y => match o x y with
  | some (.bl b) => cond b ((h ρ).bind fun z => ofO (o' y z)) (.ok (.bl false))
  | _ => .st
theorem chain_ {p q : Int → Int → Bool} (σ : L2.St) (H : Hp) (Q : VK) (an : tD K cl W (cChain (oCmp p) (oCmp q) f g h) σ H Q) :
    tChain (rI0 fun i j => .bl (p i j)) (rI0 fun i j => .bl (q i j)) (tD K cl W f) (tD K cl W g) (tD K cl W h) σ H Q := by
  obtain ⟨E0, H0, E, ρ, r, an⟩ := an
  refine ⟨E0, H0, E, ρ, r, (An.bind an).imp fun x k1 v E1 H1 g1 s1 => ?_⟩
  refine ⟨E0, H0, E1, ρ, r.grow g1, (An.bind k1).grow g1 fun y k2 w E2 H2 g2 s2 => ?_⟩
  unfold oCmp at k2
  split at k2
  · rename_i b hb
    split at hb
    · rename_i i j
      cases hb; cases s1; cases s2
      refine ⟨i, j, rfl, rfl, _, rfl, ?_⟩
      generalize p i j = b at k2
      cases b with
      | false => exact iteF (k2 _ E2 H2 (g1.trans g2) (.bl _))
      | true =>
        refine iteT ⟨E0, H0, E2, ρ, (r.grow g1).grow g2, An.grow (An.bind k2) (g1.trans g2) fun z k3 u E3 H3 g3 s3 => ?_⟩
        obtain ⟨d, hd, k⟩ := An.ofO k3
        cases z <;> first
          | (cases hd; cases s3; exact ⟨_, _, rfl, rfl, k _ E3 H3 ((g1.trans g2).trans g3) (.bl _)⟩)
          | cases hd
    · cases hb
  · exact k2.elim
theorem d_chain {op op' : CmpOp} {p q : Int → Int → Bool} (ho : OpR X (compareOp op) (rI0 fun i j => .bl (p i j))) (ho' : OpR X (compareOp op') (rI0 fun i j => .bl (q i j))) (ha : PE X a (tD K cl W f)) (hb : PE X b (tD K cl W g)) (hc : PE X c (tD K cl W h))
    (hm : lastMarks [op, op'] [b, c] = false := by with_unfolding_all rfl) : PE X (.Compare a [op, op'] [b, c] pos) (tD K cl W (cChain (oCmp p) (oCmp q) f g h)) := PE.imp (pe_chain ho ho' ha hb hc hm) chain_
theorem t_chain {op op' : CmpOp} {p q : Int → Int → Bool} (ho : OpR X (compareOp op) (rI0 fun i j => .bl (p i j))) (ho' : OpR X (compareOp op') (rI0 fun i j => .bl (q i j))) (ha : PE X a (tD K cl W f)) (hb : PE X b (tD K cl W g)) (hc : PE X c (tD K cl W h))
    (hm : lastMarks [op, op'] [b, c] = false := by with_unfolding_all rfl) : PT X (.Compare a [op, op'] [b, c] pos) (tT K cl W (cT (cChain (oCmp p) (oCmp q) f g h))) :=
  PT.imp (pt_chain ho ho' ha hb hc hm) fun σ H Q ⟨E0, H0, E, ρ, r, an⟩ => by
    refine chain_ σ H _ ⟨E0, H0, E, ρ, r, (An.bind an).imp fun d k v E' H' g' s => ?_⟩
    cases s <;> first | exact k.elim | exact ⟨_, rfl, k E' H' g'⟩

/-! ### comparisons as tests -/
theorem tst_ {t : TE} (i : ∀ σ H Q, tD K cl W f σ H Q → t σ H Q) (σ : L2.St) (H : Hp) (Q : Bool → Hp → Prop) (h : tT K cl W (cT f) σ H Q) : t σ H fun x H' => ∃ k, x = .bl k ∧ Q k H' := by
  obtain ⟨E0, H0, E, ρ, r, an⟩ := h
  refine i σ H _ ⟨E0, H0, E, ρ, r, (An.bind an).imp fun d k v E' H' g s => ?_⟩
  cases s <;> first | exact k.elim | exact ⟨_, rfl, k E' H' g⟩
theorem t_lt (ha : PE X a (tD K cl W f)) (hb : PE X b (tD K cl W g)) : PT X (.Compare a [.Lt] [b] pos) (tT K cl W (cT (c2 oLt f g))) := PT.imp (pt_cmpR op_lt ha hb (nomark _)) (tst_ cmp_)
theorem t_le (ha : PE X a (tD K cl W f)) (hb : PE X b (tD K cl W g)) : PT X (.Compare a [.LtE] [b] pos) (tT K cl W (cT (c2 oLe f g))) := PT.imp (pt_cmpR op_le ha hb (nomark _)) (tst_ cmp_)
theorem t_gt (ha : PE X a (tD K cl W f)) (hb : PE X b (tD K cl W g)) : PT X (.Compare a [.Gt] [b] pos) (tT K cl W (cT (c2 oGt f g))) := PT.imp (pt_cmpR op_gt ha hb (nomark _)) (tst_ cmp_)
theorem t_ge (hu : X.A.units + 64 < cLine) (ha : PE X a (tD X.K cl W f)) (hb : PE X b (tD X.K cl W g)) : PT X (.Compare a [.GtE] [b] pos) (tT X.K cl W (cT (c2 oGe f g))) := PT.imp (pt_cmpR (op_ge.or (op_geT (Nat.lt_of_le_of_lt (Nat.le_add_right _ _) hu))) ha hb (nomark _)) (tst_ ge_)
theorem t_eq (hu : X.A.units + 64 < cLine) (ha : PE X a (tW X.K cl W f)) (hb : PE X b (tW X.K cl W g)) : PT X (.Compare a [.Eq] [b] pos) (tT X.K cl W (cT (c2 oEq f g))) := PT.imp (pt_cmpR (op_eq.or (op_eqD hu)) ha hb (nomark _)) (tst_ eq_i)
theorem t_ne (hu : X.A.units + 64 < cLine) (ha : PE X a (tW X.K cl W f)) (hb : PE X b (tW X.K cl W g)) : PT X (.Compare a [.NotEq] [b] pos) (tT X.K cl W (cT (c2 oNe f g))) := PT.imp (pt_cmpR (op_ne.or (op_neD hu)) ha hb (nomark _)) (tst_ ne_i)
theorem t_isN {j pos'} (ha : PE X a (tW K cl W f)) : PT X (.Compare a [.Is] [.Constant .none j pos'] pos) (tT K cl W (cT (c1 oIsN f))) := PT.imp (pt_cmp (pc_isN ha) rfl) (tst_ isN_i)
theorem t_notN {j pos'} (ha : PE X a (tW K cl W f)) : PT X (.Compare a [.IsNot] [.Constant .none j pos'] pos) (tT K cl W (cT (c1 oNotN f))) := PT.imp (pt_cmp (pc_notN ha) rfl) (tst_ notN_i)

/-! ### argument lists -/
@[simp] def aNil : Av := fun _ => .ok []
@[simp] def aCons (f : Ev) (fa : Av) : Av := fun ρ => (f ρ).bind fun x => (fa ρ).bind fun xs => .ok (x :: xs)
theorem a_nil : PA X [] (tA K cl W R aNil) := PA.imp pa_nil fun σ H Q ⟨E0, H0, E, ρ, r, k⟩ => k [] E H (Gr.refl r.sb.sub) .nil
theorem a_cons (m : Mo R) (ha : PE X e (tR K cl W R f)) (hr : PA X es (tA K cl W R fa)) (hs : starEach (e :: es) X.env = (false, eval e X.env) :: starEach es X.env := by rfl) : PA X (e :: es) (tA K cl W R (aCons f fa)) :=
  PA.imp (pa_cons ha hr hs) fun σ H Q ⟨E0, H0, E, ρ, r, an⟩ => ⟨E0, H0, E, ρ, r, (An.bind an).imp fun x k1 v E1 H1 g1 s1 => ⟨E0, H0, E1, ρ, r.grow g1, (An.bind k1).grow g1 fun xs k2 vs E2 H2 g2 s2 =>
    k2 _ E2 H2 (g1.trans g2) (.cons (m _ _ _ _ _ _ s1 g2) s2)⟩⟩
theorem DnA.of {E : Hp} : ∀ {ds : List Dt} {vs : List V}, Paired (fun v d => Dn K cl E v d) vs ds → DnA K cl E vs ds
  | _, _, .nil => .nil
  | _, _, .cons h r => .cons h (DnA.of r)
theorem Wk.fullT {E H : Hp} {v : V} {d : Dt} (h : Wk K cl E H v d) (sb : Sb E H) : Dn K cl (noT H) v d := by
  have s : Sub E (noT H) := fun a o e => noT_of (sb.sub a o e) fun ps z => sb.nt a ps (by rw [← z]; exact e)
  rcases h with h | ⟨a, rfl, _, h⟩
  · exact h.mono s
  · obtain ⟨o, ho, _, nt, _⟩ := h.there'
    exact h.dn s fun u hu => noT_of hu (by rw [ho] at hu; cases hu; exact nt)
theorem WkA.fullT {E H : Hp} (s : Sub E H) (sb : Sb E H) : ∀ {ds : List Dt} {vs : List V}, Paired (Wk K cl E H) vs ds → DnA K cl (noT H) vs ds
  | _, _, .nil => .nil
  | _, _, .cons h r => .cons (h.fullT sb) (WkA.fullT s sb r)
theorem WkA.full {E H : Hp} (s : Sub E H) : ∀ {ds : List Dt} {vs : List V}, Paired (Wk K cl E H) vs ds → DnA K cl H vs ds
  | _, _, .nil => .nil
  | _, _, .cons h r => .cons (h.full s) (WkA.full s r)

/-! ### displays -/
@[simp] def cLst (fa : Av) : Ev := fun ρ => (fa ρ).bind fun ds => if ds.length ≤ lim then .ok (.lst ds) else .st
@[simp] def cTup (fa : Av) : Ev := fun ρ => (fa ρ).bind fun ds => if ds.length ≤ lim then .ok (.tup ds) else .st
theorem An.ite {α : Type} {σ : L2.St} {E H : Hp} {q : Prop} [Decidable q] {r : Rs α} {k : α → Prop} (h : An cl W σ E H (if q then r else .st) k) : q ∧ An cl W σ E H r k := by
  split at h
  · rename_i hq; exact ⟨hq, h⟩
  · exact h.elim
theorem new_lst {E H : Hp} {vs : List V} {ds : List Dt} {l : Addr} (s : Sub E H) (h : DnA K cl E vs ds) (n : H l = none) : Gr E H E (upd H l (.lst vs)) ∧ Nw K cl H E (upd H l (.lst vs)) (.ref l) (.lst ds) :=
  ⟨Gr.one s n fun z => z, l, rfl, n, s.fresh n, vs, upd_same, h⟩
theorem n_lst (ha : PA X es (tA K cl W (fun E _ v d => Dn K cl E v d) fa)) : PE X (.List es pos) (tN K cl W (cLst fa)) :=
  PE.imp (pe_lst ha) fun σ H Q ⟨E0, H0, E, ρ, r, an⟩ => ⟨E0, H0, E, ρ, r, (An.bind an).imp fun ds k vs E' H' g' s => by
    obtain ⟨hl, k⟩ := An.ite k
    have s := DnA.of s
    refine ⟨by rw [s.length]; exact lim_le hl, fun l n => ?_⟩
    obtain ⟨g2, w⟩ := new_lst g'.eh s n
    exact k _ _ _ (g'.trans g2) (coN _ _ _ _ _ _ _ _ g' w)⟩
theorem d_tup {x1} (ha : PA X es (tA K cl W (fun E _ v d => Dn K cl E v d) fa)) : PE X (.Tuple es x1 pos) (tD K cl W (cTup fa)) :=
  PE.imp (pe_tup ha) fun σ H Q ⟨E0, H0, E, ρ, r, an⟩ => ⟨E0, H0, E, ρ, r, (An.bind an).imp fun ds k vs E' H' g' s => by
    obtain ⟨hl, k⟩ := An.ite k
    have s := DnA.of s
    refine ⟨by rw [s.length]; exact lim_le hl, fun l n => ?_⟩
    obtain ⟨g2, w⟩ := new_tup g'.eh s n
    exact k _ _ _ (g'.trans g2) w⟩

/-! ### calls of defs -/
variable (K cl) in
def spX (F : List Dt → Rs Dt) : Sp := fun vs H Q E => ∃ E1 ds, Sb E1 H ∧ TbOk cl H ∧ DnA K cl E1 vs ds ∧ match F ds with
  | .st => False
  | .ok d => ∀ v E' H', Gr E1 H E' H' → Dn K cl E' v d → Q v H'
  | .ex n => ∀ E' H', Gr E1 H E' H' → E (.ref (cl n)) none H'
/-- the def x of the text keeps what F says, at level k -/
structure Fn (P : Program) (w : World) (K : PySem.W.Frag) (mg : Str → Option Value) (base : Heap) (cl : Str → Addr) (x : Str) (k : Nat) (ps : List Str) (F : List Dt → Rs Dt) : Prop where
  ex : ∃ (q : Addr) (fd : FuncData), FnOk P w K mg base (L2.CX P w) k q fd ps (spX K cl F) ∧ mg x = some (.ref q) ∧ PySem.W.keepIn K (.ref q) = true ∧ Binds K fd ps [] ∧ ∃ oc od osl, K.lookup q = some ⟨oc, od, .func fd, osl⟩
@[simp] def cCall (F : List Dt → Rs Dt) (fa : Av) : Ev := fun ρ => (fa ρ).bind F
/-- .. with arguments that the def doesn't keep -/
@[simp] def cCallW (F : List Dt → Rs Dt) (fa : Av) : Ev := fun ρ => (fa ρ).bind fun ds => (F ds).bind fun d => if imm d = true then .ok d else .st
theorem d_call {n : Str} {k : Nat} {ps : List Str} {F : List Dt → Rs Dt} (G : Fn X.prog X.w X.K X.mg X.base cl n k ps F) (hr : Room k X.A) (tk : Takes X W) (hg : Gl X n) (ha : PA X (e :: es) (tA X.K cl W (fun E _ v d => Dn X.K cl E v d) fa))
    (hdb : (n == ("__debug__" : Str)) = false := by decide) (he : starEach (e :: es) X.env = (false, eval e X.env) :: starEach es X.env := by rfl) (hpl : (backTo pos (starEach es X.env)).any (·.1) = false := by rfl) :
    PE X (.Call (.Name n p) (e :: es) [] pos) (tD X.K cl W (cCall F fa)) := by
  obtain ⟨q, fd, G, hm, hk, hb, _⟩ := G.ex
  refine PE.imp (pe_callS G hr hg hm hk hb (fun σ => passAt tk σ) ha hdb he hpl) fun σ H Q ⟨E0, H0, E, ρ, r, an⟩ => ⟨E0, H0, E, ρ, r, (An.bind an).imp fun ds k vs E' H' g' s => ?_⟩
  refine ⟨E', ds, g'.sb r.sb, (r.grow g').tb, DnA.of s, ?_⟩
  unfold An at k
  split at k
  · exact k.elim
  · rename_i d q; rw [q]; exact fun v E2 H2 g2 s2 => k v E2 H2 (g'.trans g2) s2
  · rename_i m q; rw [q]; exact fun E2 H2 g2 => k E2 H2 (g'.trans g2)
theorem w_call {n : Str} {k : Nat} {ps : List Str} {F : List Dt → Rs Dt} (G : Fn X.prog X.w X.K X.mg X.base cl n k ps F) (hr : Room k X.A) (tk : Takes X W) (hg : Gl X n) (ha : PA X (e :: es) (tA X.K cl W (Wk X.K cl) fa))
    (hdb : (n == ("__debug__" : Str)) = false := by decide) (he : starEach (e :: es) X.env = (false, eval e X.env) :: starEach es X.env := by rfl) (hpl : (backTo pos (starEach es X.env)).any (·.1) = false := by rfl) :
    PE X (.Call (.Name n p) (e :: es) [] pos) (tD X.K cl W (cCallW F fa)) := by
  obtain ⟨q, fd, G, hm, hk, hb, _⟩ := G.ex
  refine PE.imp (pe_callS G hr hg hm hk hb (fun σ => passAt tk σ) ha hdb he hpl) fun σ H Q ⟨E0, H0, E, ρ, r, an⟩ => ⟨E0, H0, E, ρ, r, (An.bind an).imp fun ds k vs E' H' g' s => ?_⟩
  have sb := g'.sb r.sb
  refine ⟨noT H', ds, noT_sb H', (r.grow g').tb, WkA.fullT g'.eh sb s, ?_⟩
  cases q : F ds with
  | st => rw [q] at k; exact k.elim
  | ok d =>
    rw [q] at k
    obtain ⟨hi, k⟩ := An.ite k
    exact fun v E2 H2 g2 s2 => k v _ H2 (g'.trans (Gr.back sb g2)) (back_imm sb g2 s2 hi)
  | ex m =>
    rw [q] at k
    exact fun E2 H2 g2 => k _ H2 (g'.trans (Gr.back sb g2))

/-! ### built-ins -/
variable {id T : String} {n : Str}
/-- a built-in def by what it does to data -/
theorem cb_ {r : List V → Hp → VK → Prop} {o : List Dt → Option Dt} {R : Rel} (co : Co S)
    (hr : ∀ E H vs xs z, Sb E H → Paired (R E H) vs xs → o xs = some z → ∀ Q : VK, (∀ u E' H', Gr E H E' H' → S E H E' H' u z → Q u H') → r vs H Q) (σ : L2.St) (H : Hp) (Q : VK)
    (h : tG K cl W S (fun ρ => (fa ρ).bind fun xs => ofO (o xs)) σ H Q) : tCB r (tA K cl W R fa) σ H Q := by
  obtain ⟨E0, H0, E, ρ, rl, a⟩ := h
  refine ⟨E0, H0, E, ρ, rl, An.imp (An.bind a) fun xs a1 vs E1 H1 g1 s1 => ?_⟩
  obtain ⟨z, hz, k⟩ := An.ofO a1
  exact hr E1 H1 vs xs z (rl.grow g1).sb s1 hz Q fun u E' H' g3 s3 => k u E' H' (g1.trans g3) (co _ _ _ _ _ _ _ _ g1 s3)
@[simp] def cB1 (o : List Dt → Option Dt) (fa : Av) : Ev := fun ρ => (fa ρ).bind fun xs => ofO (o xs)
@[simp] def oLen : List Dt → Option Dt
  | [.lst ds] => some (.int ds.length)
  | [.tup ds] => some (.int ds.length)
  | [.str x] => if x.length ≤ sizeLine then some (.int x.length) else none
  | [.scr ns] => some (.int ns.length)
  | _ => none
theorem d_len (hg : Gl X "len") (hm : X.mg "len" = none) (ha : PA X (e :: es) (tA X.K cl W (Wk X.K cl) fa))
    (he : starEach (e :: es) X.env = (false, eval e X.env) :: starEach es X.env := by rfl) (hpl : (backTo pos (starEach es X.env)).any (·.1) = false := by rfl) :
    PE X (.Call (.Name "len" p) (e :: es) [] pos) (tD X.K cl W (cB1 oLen fa)) :=
  PE.imp (pe_callB call_len hg hm PySem.boot_len ha (by decide) (by decide) he hpl) (cb_ coR fun E H vs xs z sb h e Q k => by
    unfold oLen at e
    split at e
    · rename_i ds
      cases h with
      | cons h1 h2 =>
        cases h2; cases e
        cases h1.full sb.sub with
        | lst hs hr => exact ⟨_, ds.length, rfl, .inl ⟨_, SqL.of hs, hr.length.symm⟩, same_ sb (.int _) k⟩
    · rename_i ds
      cases h with
      | cons h1 h2 =>
        cases h2; cases e
        cases h1.full sb.sub with
        | tup hs hr => exact ⟨_, ds.length, rfl, .inr ⟨_, SqT.of hs, hr.length.symm⟩, same_ sb (.int _) k⟩
    · rename_i y
      cases h with
      | cons h1 h2 =>
        split at e
        · rename_i hy
          cases h2; cases e
          cases h1.full sb.sub with
          | str => exact ⟨_, y.length, rfl, ⟨hy, rfl⟩, same_ sb (.int _) k⟩
        · cases e
    · rename_i ns
      cases h with
      | cons h1 h2 =>
        cases h2; cases e
        cases h1.full sb.sub with
        | scr hs => exact ⟨_, ns.length, rfl, .inl ⟨_, hs, by simp⟩, same_ sb (.int _) k⟩
    · cases e)
/-- isinstance(x, T), T a built-in type -/
@[simp] def tyD : Dt → Option String
  | .non => some "NoneType"
  | .bl _ => some "bool"
  | .int _ => some "int"
  | .str _ => some "str"
  | .lst _ => some "list"
  | .tup _ => some "tuple"
  | .dct _ => none
  | .obj _ _ => none
  | .scr _ => none
  | .cst _ => none
def oIsi (T : String) (x : Dt) : Option Dt := (tyD x).bind fun s => (kitB s T).map .bl
theorem tyX_of {E H : Hp} {v : V} {d : Dt} {s : String} (h : Dn K cl H v d) (e : tyD d = some s) : TyX K H v (.type s) := by
  cases h with
  | non => cases e; exact .base .non
  | bl b => cases e; exact .base (.bl b)
  | int b => cases e; exact .base (.int b)
  | str b => cases e; exact .base (.str b)
  | lst hs hr => cases e; exact .base (.lst hs)
  | tup hs hr => cases e; exact .base (.tup hs)
  | cst hs hr => cases e
  | dct hs hr => cases e
  | obj hs hr => cases e
  | scr hs => cases e
def tIsi0 (K : PySem.W.Frag) (T : String) (te : TE) : TE := tCB (rIsi K) (tCons te (tCons (tC (.ty T)) tNil))
theorem d_isi (hg : Gl X "isinstance") (hm : X.mg "isinstance" = none) (hgT : Gl X n) (hmT : X.mg n = none) (hvT : bootBuiltins n = some (.type T)) (ha : PE X e (tW X.K cl W f))
    (hnT : n ≠ "__name__" := by decide) (hdT : (n == ("__debug__" : Str)) = false := by decide)
    (hs1 : starEach [.Name n p2] X.env = (false, eval (.Name n p2) X.env) :: starEach [] X.env := by rfl)
    (he : starEach [e, .Name n p2] X.env = (false, eval e X.env) :: starEach [.Name n p2] X.env := by rfl) (hpl : (backTo pos (starEach [.Name n p2] X.env)).any (·.1) = false := by rfl) :
    PE X (.Call (.Name "isinstance" p) [e, .Name n p2] [] pos) (tD X.K cl W (c1 (oIsi T) f)) :=
  PE.imp (pe_callB call_isi hg hm (by decide +kernel) (pa_cons ha (pa_cons (pe_bltn hgT hmT hvT (v := .ty T) rfl hnT hdT) pa_nil hs1) he) (by decide) (by decide) he hpl) fun σ H Q ⟨E0, H0, E, ρ, r, an⟩ =>
    ⟨E0, H0, E, ρ, r, (An.bind an).imp fun x k v E' H' g' s => by
      obtain ⟨z, hz, k⟩ := An.ofO k
      have s := s.full g'.eh
      unfold oIsi at hz
      cases q : tyD x with
      | none => rw [q] at hz; cases hz
      | some ty =>
        rw [q] at hz
        have hz : (kitB ty T).map Dt.bl = some z := hz
        cases q2 : kitB ty T with
        | none => rw [q2] at hz; cases hz
        | some b =>
          rw [q2] at hz; cases hz
          exact ⟨v, .ty T, .type ty, .type T, b, rfl, .ty T, tyX_of (E := E') s q, kit_ty q2, k _ E' H' g' (.bl b)⟩⟩
/-! ### items -/
@[simp] def oIx : Dt → Dt → Option Dt
  | .lst ds, .int i => atI ds i
  | .tup ds, .int i => atI ds i
  | .str z, .int i => if z.length ≤ sizeLine then (atI z.cps.toList i).map fun c => .str ⟨#[c]⟩ else none
  | .scr ns, .int i => (atI ns i).map .int
  | _, _ => none
theorem DnA.at {E : Hp} {ds : List Dt} {vs : List V} {i : Int} {d : Dt} (h : DnA K cl E vs ds) (e : atI ds i = some d) : ∃ v, atI vs i = some v ∧ Dn K cl E v d := by
  unfold atI at e ⊢
  rw [h.length]
  cases q : ixN ds.length i with
  | none => rw [q] at e; cases e
  | some j =>
    rw [q] at e
    exact h.get e
theorem Wk.items {E H : Hp} {v : V} {ds : List Dt} (h : Wk K cl E H v (.lst ds)) (s : Sub E H) : ∃ a vs, v = .ref a ∧ SqL K H a vs ∧ DnA K cl E vs ds := by
  rcases h with h | ⟨a, rfl, _, vs, h1, h2⟩
  · cases h with
    | lst hs hr => exact ⟨_, _, rfl, SqL.of (s _ _ hs), hr⟩
  · exact ⟨a, vs, rfl, SqL.of h1, h2⟩
theorem Wk.itemsT {E H : Hp} {v : V} {ds : List Dt} (h : Wk K cl E H v (.tup ds)) (s : Sub E H) : ∃ a vs, v = .ref a ∧ E a = some (.tup vs) ∧ DnA K cl E vs ds := by
  rcases h with h | ⟨a, rfl, _, h⟩
  · cases h with
    | tup hs hr => exact ⟨_, _, rfl, hs, hr⟩
  · exact h.elim
theorem atI_ints {ns : List Int} {i c : Int} (q : atI ns i = some c) : atI (ns.map V.int) i = some (.int c) := by
  unfold atI at q ⊢
  rw [List.length_map]
  cases z : ixN ns.length i with
  | none => rw [z] at q; cases q
  | some j =>
    rw [z] at q
    show (ns.map V.int)[j]? = _
    rw [List.getElem?_map, show ns[j]? = some c from q]; rfl
theorem d_ix (ha : PE X a (tW X.K cl W f)) (hb : PE X b (tD X.K cl W g)) (hs : PlainIx b) : PE X (.Subscript a b pos) (tD X.K cl W (c2 oIx f g)) :=
  PE.imp (pe_ix ix_seq ha hb hs) (bin_ moW coR fun E H v w x y z sb h1 h2 e Q k => by
    unfold oIx at e
    split at e
    · cases h2
      obtain ⟨a, vs, rfl, hs, hr⟩ := h1.items sb.sub
      obtain ⟨u, hu, hd⟩ := hr.at e
      exact .inl ⟨a, vs, _, u, rfl, rfl, hs, hu, same_ sb hd k⟩
    · cases h2
      obtain ⟨a, vs, rfl, hs, hr⟩ := h1.itemsT sb.sub
      obtain ⟨u, hu, hd⟩ := hr.at e
      exact .inr (.inl ⟨a, vs, _, u, rfl, rfl, SqT.of (sb.sub _ _ hs), hu, same_ sb hd k⟩)
    · split at e
      · rename_i z' i hz
        cases h2
        cases q : atI z'.cps.toList i with
        | none => rw [q] at e; cases e
        | some c =>
          rw [q] at e; cases e
          cases h1.full sb.sub with
          | str => exact .inr (.inr ⟨_, _, c, rfl, rfl, hz, q, same_ sb (.str _) k⟩)
      · cases e
    · rename_i ns i
      cases h2
      cases q : atI ns i with
      | none => rw [q] at e; cases e
      | some c =>
        rw [q] at e; cases e
        cases h1.full sb.sub with
        | scr hs => exact .inl ⟨_, _, _, _, rfl, rfl, hs, atI_ints q, same_ sb (.int _) k⟩
    · cases e)
end
end Dl
namespace Dl
open PySem L2
section
variable {K : PySem.W.Frag} {cl : Str → Addr} {E0 H0 E H E' H' : Hp} {σ : L2.St} {ρ : List Sl} {a : Addr} {v : V} {d : Dt} {i : Nat}
theorem Rl.setV (r : Rl K cl E0 H0 E H σ ρ) (h : Dn K cl E v d) (i : Nat) : Rl K cl E0 H0 E H (σ.set i (some v)) (ρ.set i (.va d)) where
  sb0 := r.sb0
  tb0 := r.tb0
  gr := r.gr
  len := by simp [r.len]
  va := fun j e q => by
    by_cases hj : i = j
    · subst hj
      by_cases hl : i < ρ.length
      · rw [List.getElem?_set_self hl] at q; cases q
        exact ⟨v, by rw [List.getElem?_set_self (by rw [← r.len]; exact hl)], h⟩
      · rw [List.getElem?_eq_none (by simpa using hl)] at q; cases q
    · rw [List.getElem?_set_ne hj] at q ⊢; exact r.va j e q
  ow := fun j e q => by
    by_cases hj : i = j
    · subst hj
      by_cases hl : i < ρ.length
      · rw [List.getElem?_set_self hl] at q; cases q
      · rw [List.getElem?_eq_none (by simpa using hl)] at q; cases q
    · rw [List.getElem?_set_ne hj] at q ⊢; exact r.ow j e q
  ne := fun j k e1 e2 b hjk q1 q2 => by
    have nj : i ≠ j := fun z => by
      subst z
      by_cases hl : i < ρ.length
      · rw [List.getElem?_set_self hl] at q1; cases q1
      · rw [List.getElem?_eq_none (by simpa using hl)] at q1; cases q1
    have nk : i ≠ k := fun z => by
      subst z
      by_cases hl : i < ρ.length
      · rw [List.getElem?_set_self hl] at q2; cases q2
      · rw [List.getElem?_eq_none (by simpa using hl)] at q2; cases q2
    rw [List.getElem?_set_ne nj] at q1 ⊢
    rw [List.getElem?_set_ne nk] at q2 ⊢
    exact r.ne j k e1 e2 b hjk q1 q2
  pn := fun j b e q => by
    by_cases hj : i = j
    · subst hj
      by_cases hl : i < ρ.length
      · rw [List.getElem?_set_self hl] at q; cases q
      · rw [List.getElem?_eq_none (by simpa using hl)] at q; cases q
    · rw [List.getElem?_set_ne hj] at q ⊢; exact r.pn j b e q
theorem Rl.no (r : Rl K cl E0 H0 E H σ ρ) (i : Nat) : Rl K cl E0 H0 E H σ (ρ.set i .no) where
  sb0 := r.sb0
  tb0 := r.tb0
  gr := r.gr
  len := by simp [r.len]
  va := fun j e q => by
    by_cases hj : i = j
    · subst hj
      by_cases hl : i < ρ.length
      · rw [List.getElem?_set_self hl] at q; cases q
      · rw [List.getElem?_eq_none (by simpa using hl)] at q; cases q
    · rw [List.getElem?_set_ne hj] at q; exact r.va j e q
  ow := fun j e q => by
    by_cases hj : i = j
    · subst hj
      by_cases hl : i < ρ.length
      · rw [List.getElem?_set_self hl] at q; cases q
      · rw [List.getElem?_eq_none (by simpa using hl)] at q; cases q
    · rw [List.getElem?_set_ne hj] at q; exact r.ow j e q
  ne := fun j k e1 e2 b hjk q1 q2 => by
    have nj : i ≠ j := fun z => by
      subst z
      by_cases hl : i < ρ.length
      · rw [List.getElem?_set_self hl] at q1; cases q1
      · rw [List.getElem?_eq_none (by simpa using hl)] at q1; cases q1
    have nk : i ≠ k := fun z => by
      subst z
      by_cases hl : i < ρ.length
      · rw [List.getElem?_set_self hl] at q2; cases q2
      · rw [List.getElem?_eq_none (by simpa using hl)] at q2; cases q2
    rw [List.getElem?_set_ne nj] at q1
    rw [List.getElem?_set_ne nk] at q2
    exact r.ne j k e1 e2 b hjk q1 q2
  pn := fun j b e q => by
    by_cases hj : i = j
    · subst hj
      by_cases hl : i < ρ.length
      · rw [List.getElem?_set_self hl] at q; cases q
      · rw [List.getElem?_eq_none (by simpa using hl)] at q; cases q
    · rw [List.getElem?_set_ne hj] at q; exact r.pn j b e q
@[simp] def fgt (fg : List Nat) (ρ : List Sl) : List Sl := fg.foldl (fun ρ i => ρ.set i .no) ρ
theorem Rl.fgt : ∀ {fg : List Nat} {ρ : List Sl}, Rl K cl E0 H0 E H σ ρ → Rl K cl E0 H0 E H σ (fgt fg ρ)
  | [], _, r => r
  | i :: fg, ρ, r => Rl.fgt (fg := fg) (r.no i)
theorem Rl.dropσ (r : Rl K cl E0 H0 E H σ ρ) (h : ∀ d, ρ[i]? ≠ some (.va d)) (h' : ∀ d, ρ[i]? ≠ some (.ow d)) (h'' : ∀ a d, ρ[i]? ≠ some (.pn a d)) : Rl K cl E0 H0 E H (σ.set i none) ρ where
  sb0 := r.sb0
  tb0 := r.tb0
  gr := r.gr
  len := by simp [r.len]
  va := fun j e q => by
    have : i ≠ j := fun z => by subst z; exact h _ q
    rw [List.getElem?_set_ne this]; exact r.va j e q
  ow := fun j e q => by
    have : i ≠ j := fun z => by subst z; exact h' _ q
    rw [List.getElem?_set_ne this]; exact r.ow j e q
  ne := fun j k e1 e2 b hjk q1 q2 => by
    have nj : i ≠ j := fun z => by subst z; exact h' _ q1
    have nk : i ≠ k := fun z => by subst z; exact h' _ q2
    rw [List.getElem?_set_ne nj, List.getElem?_set_ne nk]
    exact r.ne j k e1 e2 b hjk q1 q2
  pn := fun j b e q => by
    have : i ≠ j := fun z => by subst z; exact h'' _ _ q
    rw [List.getElem?_set_ne this]; exact r.pn j b e q
theorem fgt_len : ∀ (fg : List Nat) (ρ : List Sl), (fgt fg ρ).length = ρ.length
  | [], _ => rfl
  | i :: fg, ρ => by
    show (fgt fg (ρ.set i .no)).length = _
    rw [fgt_len fg]; simp
theorem fgt_keep : ∀ (fg : List Nat) (ρ : List Sl) (i : Nat), (ρ[i]? = some .no ∨ ρ[i]? = none) → ((fgt fg ρ)[i]? = some .no ∨ (fgt fg ρ)[i]? = none)
  | [], _, _, h => h
  | j :: fg, ρ, i, h => by
    refine fgt_keep fg (ρ.set j .no) i ?_
    by_cases hj : j = i
    · subst hj
      by_cases hl : j < ρ.length
      · rw [List.getElem?_set_self hl]; exact .inl rfl
      · rw [List.getElem?_eq_none (by simpa using hl)]; exact .inr rfl
    · rw [List.getElem?_set_ne hj]; exact h
theorem fgt_in : ∀ (fg : List Nat) (ρ : List Sl) (i : Nat), i ∈ fg → ((fgt fg ρ)[i]? = some .no ∨ (fgt fg ρ)[i]? = none)
  | j :: fg, ρ, i, h => by
    by_cases hj : i = j
    · subst hj
      refine fgt_keep fg _ i ?_
      by_cases hl : i < ρ.length
      · rw [List.getElem?_set_self hl]; exact .inl rfl
      · rw [List.getElem?_eq_none (by simpa using hl)]; exact .inr rfl
    · rcases List.mem_cons.mp h with q | q
      · exact absurd q hj
      · exact fgt_in fg _ i q
  | [], _, _, h => nomatch h
theorem fgt_off : ∀ (fg : List Nat) (ρ : List Sl) (i : Nat), i ∉ fg → (fgt fg ρ)[i]? = ρ[i]?
  | [], _, _, _ => rfl
  | j :: fg, ρ, i, h => by
    have h1 : i ≠ j := fun z => h (by rw [z]; exact List.mem_cons_self)
    show (fgt fg (ρ.set j .no))[i]? = _
    rw [fgt_off fg _ i fun z => h (List.mem_cons_of_mem _ z), List.getElem?_set_ne (Ne.symm h1)]
/-- the block's names are wiped -/
theorem Rl.wipe (r : Rl K cl E0 H0 E H σ ρ) : ∀ (fg vs : List Nat), (∀ i ∈ vs, i ∈ fg) → Rl K cl E0 H0 E H (wipe σ vs) (Dl.fgt fg ρ)
  | fg, [], _ => r.fgt
  | fg, i :: vs, h => by
    have q := Rl.wipe r fg vs fun j hj => h j (List.mem_cons_of_mem _ hj)
    have k := fgt_in fg ρ i (h i List.mem_cons_self)
    unfold L2.wipe
    exact q.dropσ (fun d e => by rcases k with k | k <;> rw [k] at e <;> cases e) (fun d e => by rcases k with k | k <;> rw [k] at e <;> cases e) fun b d e => by rcases k with k | k <;> rw [k] at e <;> cases e
/-- a new owned thing at slot i -/
theorem Rl.setO (r : Rl K cl E0 H0 E H σ ρ) (g : Gr E H E' H') (w : Nw K cl H E' H' v d) (i : Nat) : Rl K cl E0 H0 E' H' (σ.set i (some v)) (ρ.set i (.ow d)) := by
  obtain ⟨a, rfl, n, n', o⟩ := w
  have r1 := (r.grow g).no i
  have n0 : H0 a = none := r.gr.fresh n
  have away : ∀ (j : Nat) e, ρ[j]? = some (.ow e) → σ[j]? ≠ some (some (.ref a)) := fun j e q z => by
    obtain ⟨b, h1, _, _, h4⟩ := r.ow j e q
    rw [z] at h1; cases h1
    obtain ⟨u, hu, _⟩ := h4.there
    rw [n] at hu; cases hu
  have r0 := r.grow g
  refine ⟨r.sb0, r.tb0, r0.gr, by simp [r.len], fun j e q => ?_, fun j e q => ?_, fun j k e1 e2 b hjk q1 q2 => ?_, fun j b e q => ?_⟩
  · by_cases hj : i = j
    · subst hj
      by_cases hl : i < ρ.length
      · rw [List.getElem?_set_self hl] at q; cases q
      · rw [List.getElem?_eq_none (by simpa using hl)] at q; cases q
    · rw [List.getElem?_set_ne hj] at q ⊢; exact r0.va j e q
  · by_cases hj : i = j
    · subst hj
      by_cases hl : i < ρ.length
      · rw [List.getElem?_set_self hl] at q; cases q
        exact ⟨a, List.getElem?_set_self (by rw [← r.len]; exact hl), n0, n', o⟩
      · rw [List.getElem?_eq_none (by simpa using hl)] at q; cases q
    · rw [List.getElem?_set_ne hj] at q ⊢; exact r0.ow j e q
  · by_cases hj : i = j
    · subst hj
      have hk : i ≠ k := hjk
      rw [List.getElem?_set_ne hk] at q2 ⊢
      intro q3
      by_cases hl : i < σ.length
      · rw [List.getElem?_set_self hl] at q3; cases q3
        exact away k e2 q2
      · rw [List.getElem?_eq_none (by simpa using hl)] at q3; cases q3
    · rw [List.getElem?_set_ne hj] at q1 ⊢
      by_cases hk : i = k
      · subst hk
        intro q3 q4
        by_cases hl : i < σ.length
        · rw [List.getElem?_set_self hl] at q4; cases q4
          exact away j e1 q1 q3
        · rw [List.getElem?_eq_none (by simpa using hl)] at q4; cases q4
      · rw [List.getElem?_set_ne hk] at q2 ⊢
        exact r.ne j k e1 e2 b hjk q1 q2
  · by_cases hj : i = j
    · subst hj
      by_cases hl : i < ρ.length
      · rw [List.getElem?_set_self hl] at q; cases q
      · rw [List.getElem?_eq_none (by simpa using hl)] at q; cases q
    · rw [List.getElem?_set_ne hj] at q ⊢; exact r0.pn j b e q
/-- the owned thing of slot i is changed -/
theorem Rl.write {o : HO} {d' : Dt} (r : Rl K cl E0 H0 E H σ ρ) (hi : ρ[i]? = some (.ow d)) (hs : σ[i]? = some (some (.ref a))) (no : ¬ Imm o) (w : Ow K cl E (upd H a o) a d') : Rl K cl E0 H0 E (upd H a o) σ (ρ.set i (.ow d')) := by
  obtain ⟨b, h1, h2, h3, h4⟩ := r.ow i d hi
  rw [hs] at h1; cases h1
  have hl : i < ρ.length := (List.getElem?_eq_some_iff.mp hi).1
  have sub : Sub E (upd H a o) := fun x u e => by
    have : x ≠ a := fun z => by rw [z, h3] at e; cases e
    rw [upd_ne this]; exact r.gr.eh x u e
  obtain ⟨o0, ho0, _, nt0, nc0⟩ := h4.there'
  refine ⟨r.sb0, r.tb0, ⟨r.gr.ee, fun x u e => ?_, r.gr.tb.trans (.wr ho0 nt0 nc0), r.gr.nt, sub, r.gr.nw, fun x u q1 q2 q3 => ?_⟩, by simp [r.len], fun j e q => ?_, fun j e q => ?_, fun j k e1 e2 b hjk q1 q2 => ?_, fun j b e q => ?_⟩
  · have : x ≠ a := fun z => by rw [z, h2] at e; cases e
    rw [upd_ne this]; exact r.gr.hh x u e
  · by_cases hx : x = a
    · subst hx; rw [upd_same] at q2; cases q2; exact absurd q3 no
    · rw [upd_ne hx] at q2; exact r.gr.im x u q1 q2 q3
  · by_cases hj : i = j
    · subst hj; rw [List.getElem?_set_self hl] at q; cases q
    · rw [List.getElem?_set_ne hj] at q; exact r.va j e q
  · by_cases hj : i = j
    · subst hj; rw [List.getElem?_set_self hl] at q; cases q
      exact ⟨a, hs, h2, h3, w⟩
    · rw [List.getElem?_set_ne hj] at q
      obtain ⟨c, k1, k2, k3, k4⟩ := r.ow j e q
      have hca : c ≠ a := fun z => by
        subst z; exact r.ne i j d e c hj hi q hs k1
      refine ⟨c, k1, k2, k3, ?_⟩
      cases e with
      | lst ds => obtain ⟨vs, p1, p2⟩ := k4; exact ⟨vs, by rw [upd_ne hca]; exact p1, p2⟩
      | dct ds => obtain ⟨vs, p1, p2⟩ := k4; exact ⟨vs, by rw [upd_ne hca]; exact p1, p2⟩
      | obj c' ds => obtain ⟨dx, vs, p1, p2⟩ := k4; exact ⟨dx, vs, by rw [upd_ne hca]; exact p1, p2⟩
      | _ => exact k4.elim
  · have q1' : ∃ e1', ρ[j]? = some (.ow e1') := by
      by_cases hj : i = j
      · subst hj; exact ⟨_, hi⟩
      · rw [List.getElem?_set_ne hj] at q1; exact ⟨_, q1⟩
    have q2' : ∃ e2', ρ[k]? = some (.ow e2') := by
      by_cases hk : i = k
      · subst hk; exact ⟨_, hi⟩
      · rw [List.getElem?_set_ne hk] at q2; exact ⟨_, q2⟩
    obtain ⟨_, q1'⟩ := q1'
    obtain ⟨_, q2'⟩ := q2'
    exact r.ne j k _ _ b hjk q1' q2'
  · by_cases hj : i = j
    · subst hj; rw [List.getElem?_set_self hl] at q; cases q
    · rw [List.getElem?_set_ne hj] at q; exact r.pn j b e q
/-- a new object that is written later -/
theorem Gr.wr {E H E2 H2 : Hp} {L : Addr} {o : HO} (g : Gr E H E2 H2) (n : H L = none) (n2 : E2 L = none) (no : ¬ Imm o) (nu : ∀ u, H2 L = some u → (∀ ps, u ≠ .tbl ps) ∧ ∀ c q, u ≠ LamX.CodeO c q) : Gr E H E2 (upd H2 L o) where
  ee := g.ee
  hh := fun x u q => by
    have : x ≠ L := fun z => by rw [z, n] at q; cases q
    rw [upd_ne this]; exact g.hh x u q
  tb := by
    cases q : H2 L with
    | none => exact g.tb.trans (.of (Sub.up q))
    | some u => exact g.tb.trans (.wr q (nu u q).1 (nu u q).2)
  nt := g.nt
  eh := fun x u q => by
    have : x ≠ L := fun z => by rw [z, n2] at q; cases q
    rw [upd_ne this]; exact g.eh x u q
  nw := g.nw
  im := fun x u q1 q2 q3 => by
    by_cases hx : x = L
    · subst hx; rw [upd_same] at q2; cases q2; exact absurd q3 no
    · rw [upd_ne hx] at q2; exact g.im x u q1 q2 q3
/-- from now on it isn't changed -/
@[simp] def fz (i : Nat) (ρ : List Sl) : List Sl := match ρ[i]? with
  | some (.ow d) => ρ.set i (.va d)
  | _ => ρ
theorem Rl.fz (r : Rl K cl E0 H0 E H σ ρ) (i : Nat) : ∃ E', Rl K cl E0 H0 E' H σ (fz i ρ) ∧ Sub E E' := by
  unfold Dl.fz
  split
  · rename_i d hi
    obtain ⟨a, h1, h2, h3, h4⟩ := r.ow i d hi
    obtain ⟨o, ho, nt, hd⟩ := h4.fix h3
    have hl : i < ρ.length := (List.getElem?_eq_some_iff.mp hi).1
    have sE : Sub E (upd E a o) := Sub.up h3
    refine ⟨upd E a o, ⟨r.sb0, r.tb0, ⟨r.gr.ee.trans sE, r.gr.hh, r.gr.tb, fun t => (r.gr.nt t).up nt, fun x u e => ?_, fun x q1 q2 => ?_, fun x u q1 q2 q3 => sE x u (r.gr.im x u q1 q2 q3)⟩, by simp [r.len], fun j e q => ?_, fun j e q => ?_, fun j k e1 e2 b hjk q1 q2 => ?_, fun j b e q => ?_⟩, sE⟩
    · by_cases hx : x = a
      · subst hx; rw [upd_same] at e; rw [ho, e]
      · rw [upd_ne hx] at e; exact r.gr.eh x u e
    · have : x ≠ a := fun z => by rw [z] at q1; exact q1 h2
      rw [upd_ne this]; exact r.gr.nw x q1 q2
    · by_cases hj : i = j
      · subst hj; rw [List.getElem?_set_self hl] at q; cases q
        exact ⟨_, h1, hd⟩
      · rw [List.getElem?_set_ne hj] at q
        obtain ⟨v, k1, k2⟩ := r.va j e q
        exact ⟨v, k1, k2.mono sE⟩
    · by_cases hj : i = j
      · subst hj; rw [List.getElem?_set_self hl] at q; cases q
      · rw [List.getElem?_set_ne hj] at q
        obtain ⟨c, k1, k2, k3, k4⟩ := r.ow j e q
        have hca : c ≠ a := fun z => by
          subst z; exact r.ne i j d e c hj hi q h1 k1
        exact ⟨c, k1, k2, by rw [upd_ne hca]; exact k3, k4.mono sE (Sub.refl _)⟩
    · have nj : i ≠ j := fun z => by subst z; rw [List.getElem?_set_self hl] at q1; cases q1
      have nk : i ≠ k := fun z => by subst z; rw [List.getElem?_set_self hl] at q2; cases q2
      rw [List.getElem?_set_ne nj] at q1
      rw [List.getElem?_set_ne nk] at q2
      exact r.ne j k e1 e2 b hjk q1 q2
    · by_cases hj : i = j
      · subst hj; rw [List.getElem?_set_self hl] at q; cases q
      · rw [List.getElem?_set_ne hj] at q
        obtain ⟨k1, k2⟩ := r.pn j b e q
        exact ⟨k1, k2.mono sE⟩
  · exact ⟨E, r, Sub.refl _⟩
end

section
variable {K : PySem.W.Frag} {cl : Str → Addr} {X : Cx} {W : L2.WX} {R : Rel} {S : Rl4} {a b c e x tg iter : Expr} {es rest : List Expr} {f : Ev} {t : Tv} {g h : Sv} {fa : Av} {pos p p2 : Pos} {st : Stmt} {sts body : List Stmt} {D : Ends} {E0 H0 E H : Hp}
@[simp] def rob {α : Type} (r : Rs α) (ρ : List Sl) (k : α → Ro) : Ro := match r with
  | .st => .st
  | .ok a => k a
  | .ex n => .ex n ρ
theorem rob_an {α : Type} {σ : L2.St} {ρ : List Sl} {r : Rs α} {k : α → Ro} (rl : Rl K cl E0 H0 E H σ ρ) (h : Ros K cl W D E0 H0 E (rob r ρ k)) : An cl W σ E H r fun a => Ros K cl W D E0 H0 E (k a) := by
  cases r with
  | st => exact h
  | ok a => exact h
  | ex n => exact fun E' H' g => h σ E' H' (rl.grow g) g.ee
theorem Ros.up {E E' : Hp} {r : Ro} (h : Ros K cl W D E0 H0 E r) (s : Sub E E') : Ros K cl W D E0 H0 E' r := by
  cases r with
  | st => exact h
  | nx ρ => exact fun σ' E2 H2 rl s2 => h σ' E2 H2 rl (s.trans s2)
  | bk ρ => exact fun σ' E2 H2 rl s2 => h σ' E2 H2 rl (s.trans s2)
  | ct ρ => exact fun σ' E2 H2 rl s2 => h σ' E2 H2 rl (s.trans s2)
  | rt d => exact h
  | ex n ρ => exact fun σ' E2 H2 rl s2 => h σ' E2 H2 rl (s.trans s2)

/-! ### blocks -/
@[simp] def sNil : Sv := fun ρ => .nx ρ
@[simp] def sSeq (g h : Sv) : Sv := fun ρ => match g ρ with
  | .nx ρ' => h ρ'
  | r => r
theorem ss_nil : PSs X [] (tS K cl W sNil) := PSs.imp pss_nil fun D σ H ⟨E0, H0, E, ρ, r, k⟩ => k σ E H r (Sub.refl _)
theorem ss_one (h1 : PS X st (tS K cl W g)) : PSs X [st] (tS K cl W g) := pss_one h1
theorem ss_cons (h1 : PS X st (tS K cl W g)) (h2 : PSs X sts (tS K cl W h)) : PSs X (st :: sts) (tS K cl W (sSeq g h)) :=
  PSs.imp (pss_cons h1 h2) fun D σ H ⟨E0, H0, E, ρ, r, k⟩ => by
    refine ⟨E0, H0, E, ρ, r, ?_⟩
    unfold sSeq at k
    cases q : g ρ with
    | nx ρ' => rw [q] at k; exact fun σ' E' H' r' s => ⟨E0, H0, E', ρ', r', Ros.up k s⟩
    | st => rw [q] at k; exact k
    | bk _ => rw [q] at k; exact k
    | ct _ => rw [q] at k; exact k
    | rt _ => rw [q] at k; exact k
    | ex _ _ => rw [q] at k; exact k
/-- slots that are changed no more ahead of a statement -/
@[simp] def sFz (i : Nat) (g : Sv) : Sv := fun ρ => g (fz i ρ)
theorem s_fz (i : Nat) (h1 : PS X st (tS K cl W g)) : PS X st (tS K cl W (sFz i g)) :=
  PS.imp h1 fun D σ H ⟨E0, H0, E, ρ, r, k⟩ => by
    obtain ⟨E', r', s⟩ := r.fz i
    exact ⟨E0, H0, E', _, r', Ros.up k s⟩
@[simp] def sFg (fg : List Nat) (g : Sv) : Sv := fun ρ => g (fgt fg ρ)
theorem s_pass : PS X (.Pass pos) (tS K cl W sNil) := PS.imp ps_pass fun D σ H ⟨E0, H0, E, ρ, r, k⟩ => k σ E H r (Sub.refl _)
@[simp] def sBrk : Sv := fun ρ => .bk ρ
@[simp] def sCnt : Sv := fun ρ => .ct ρ
theorem s_brk : PS X (.Break pos) (tS K cl W sBrk) := PS.imp ps_break fun D σ H ⟨E0, H0, E, ρ, r, k⟩ => k σ E H r (Sub.refl _)
theorem s_cnt : PS X (.Continue pos) (tS K cl W sCnt) := PS.imp ps_continue fun D σ H ⟨E0, H0, E, ρ, r, k⟩ => k σ E H r (Sub.refl _)
@[simp] def sExpr (f : Ev) : Sv := fun ρ => rob (f ρ) ρ fun _ => .nx ρ
theorem s_expr (h1 : PE X e (tD K cl W f)) (hs : swapsWith e none pos.line X.env = pure false := by rfl) : PS X (.Expr e pos) (tS K cl W (sExpr f)) :=
  PS.imp (ps_expr h1 hs) fun D σ H ⟨E0, H0, E, ρ, r, k⟩ => ⟨E0, H0, E, ρ, r, (rob_an r k).imp fun d k v E' H' g s => k σ E' H' (r.grow g) g.ee⟩
@[simp] def sRet (f : Ev) : Sv := fun ρ => rob (f ρ) ρ .rt
theorem s_ret (h1 : PE X e (tD K cl W f)) : PS X (.Return (some e) pos) (tS K cl W (sRet f)) :=
  PS.imp (ps_ret h1) fun D σ H ⟨E0, H0, E, ρ, r, k⟩ => ⟨E0, H0, E, ρ, r, (rob_an r k).imp fun d k v E' H' g s => k v E' H' (r.gr.trans g) s⟩
@[simp] def sIf (t : Tv) (g h : Sv) : Sv := fun ρ => rob (t ρ) ρ fun b => cond b (g ρ) (h ρ)
theorem s_if {sa sb : List Stmt} (hc : PT X c (tT K cl W t)) (ha : PSs X sa (tS K cl W g)) (hb : PSs X sb (tS K cl W h)) : PS X (.If c sa sb pos) (tS K cl W (sIf t g h)) :=
  PS.imp (ps_if hc ha hb) fun D σ H ⟨E0, H0, E, ρ, r, k⟩ => ⟨E0, H0, E, ρ, r, (rob_an r k).imp fun b k E' H' g => by
    cases b with
    | true => exact iteT ⟨E0, H0, E', ρ, r.grow g, Ros.up k g.ee⟩
    | false => exact iteF ⟨E0, H0, E', ρ, r.grow g, Ros.up k g.ee⟩⟩
@[simp] def sSet (i : Nat) (f : Ev) : Sv := fun ρ => rob (f ρ) ρ fun d => .nx (ρ.set i (.va d))
@[simp] def sSetN (i : Nat) (f : Ev) : Sv := fun ρ => rob (f ρ) ρ fun d => .nx (ρ.set i (.ow d))
theorem asg_ {i : Nat} (D : Ends) (σ : L2.St) (H : Hp) (q : tS K cl W (sSet i f) D σ H) : tAsg (tD K cl W f) (gName i) D σ H := by
  obtain ⟨E0, H0, E, ρ, r, k⟩ := q
  exact ⟨E0, H0, E, ρ, r, (rob_an r k).imp fun d k v E' H' g s => k _ E' H' ((r.grow g).setV s i) g.ee⟩
theorem asgN_ {i : Nat} (D : Ends) (σ : L2.St) (H : Hp) (q : tS K cl W (sSetN i f) D σ H) : tAsg (tN K cl W f) (gName i) D σ H := by
  obtain ⟨E0, H0, E, ρ, r, k⟩ := q
  exact ⟨E0, H0, E, ρ, r, (rob_an r k).imp fun d k v E' H' g s => k _ E' H' (r.setO g s i) g.ee⟩
variable {n : Str} {pos' : Pos}
theorem s_set {i : Nat} (hN : X.N.Nodup) (hi : X.N[i]? = some n) (hx : Loc X.env.scope n) (he : PE X e (tD K cl W f)) (hs : swapsWith e (some (.Name n pos')) pos.line X.env = pure false := by rfl) (hf : X.fn n = true ∨ X.env.scope.names.lookup n = some .local := by first | exact .inl rfl | exact .inr rfl | assumption) :
    PS X (.Assign [.Name n pos'] e pos) (tS K cl W (sSet i f)) := PS.imp (ps_set hN hi hx he hs hf) asg_
theorem s_setN {i : Nat} (hN : X.N.Nodup) (hi : X.N[i]? = some n) (hx : Loc X.env.scope n) (he : PE X e (tN K cl W f)) (hs : swapsWith e (some (.Name n pos')) pos.line X.env = pure false := by rfl) (hf : X.fn n = true ∨ X.env.scope.names.lookup n = some .local := by first | exact .inl rfl | exact .inr rfl | assumption) :
    PS X (.Assign [.Name n pos'] e pos) (tS K cl W (sSetN i f)) := PS.imp (ps_set hN hi hx he hs hf) asgN_

/-! ### targets -/
abbrev Gv := Dt → List Sl → Option (List Sl)
abbrev Gvs := List Dt → List Sl → Option (List Sl)
variable (K cl) in
/-- a target: what it makes of the slots; vs the places it stores at -/
def tTg (vs : List Nat) (tg : Gv) : TG := fun v σ H Q => ∃ E0 H0 E ρ d ρ', Rl K cl E0 H0 E H σ ρ ∧ Dn K cl E v d ∧ tg d ρ = some ρ' ∧ ∀ σ', Rl K cl E0 H0 E H σ' ρ' → (∀ ws, (∀ i ∈ vs, i ∈ ws) → wipe σ' ws = wipe σ ws) → Q σ' H
variable (K cl) in
def tTgs (vs : List Nat) (tg : Gvs) : TGs := fun us σ H Q => ∃ E0 H0 E ρ ds ρ', Rl K cl E0 H0 E H σ ρ ∧ DnA K cl E us ds ∧ tg ds ρ = some ρ' ∧ ∀ σ', Rl K cl E0 H0 E H σ' ρ' → (∀ ws, (∀ i ∈ vs, i ∈ ws) → wipe σ' ws = wipe σ ws) → Q σ' H
theorem wipe_set {σ : L2.St} {i : Nat} {v : Option V} : ∀ {ws : List Nat}, i ∈ ws → wipe (σ.set i v) ws = wipe σ ws
  | j :: ws, h => by
    unfold wipe
    by_cases hj : i ∈ ws
    · rw [wipe_set hj]
    · have : i = j := (List.mem_cons.mp h).resolve_right hj
      subst this
      have q : ∀ ws : List Nat, (wipe (σ.set i v) ws).set i none = (wipe σ ws).set i none := by
        intro ws
        induction ws with
        | nil => simp [wipe]
        | cons k ws ih =>
          unfold wipe
          by_cases hk : k = i
          · subst hk; simp; exact ih
          · rw [List.set_comm _ _ hk, ih, List.set_comm _ _ hk]
      exact q ws
  | [], h => nomatch h
@[simp] def gN (i : Nat) : Gv := fun d ρ => some (ρ.set i (.va d))
theorem g_name {i : Nat} (hN : X.N.Nodup) (hi : X.N[i]? = some n) (hx : Loc X.env.scope n) (hf : X.fn n = true ∨ X.env.scope.names.lookup n = some .local := by first | exact .inl rfl | exact .inr rfl | assumption) : PG X (.Name n pos) (tTg K cl [i] (gN i)) :=
  PG.imp (pg_name hN hi hx hf) fun v σ H Q ⟨E0, H0, E, ρ, d, ρ', r, h, e, k⟩ => by
    cases e
    exact k _ (r.setV h i) fun ws hw => wipe_set (hw i List.mem_cons_self)
@[simp] def gsNil : Gvs := fun ds ρ => match ds with
  | [] => some ρ
  | _ => none
@[simp] def gsCons (t : Gv) (ts : Gvs) : Gvs := fun ds ρ => match ds with
  | d :: ds => (t d ρ).bind fun ρ' => ts ds ρ'
  | [] => none
theorem gs_nil : PGs X [] (tTgs K cl [] gsNil) :=
  ⟨fun pins s σ H vs us Q I r ⟨E0, H0, E, ρ, ds, ρ', rl, h, e, k⟩ => by
    refine pgs_nil.run pins s σ H vs us Q I r ?_
    cases h with
    | nil => cases e; exact ⟨rfl, k σ rl fun _ _ => rfl⟩
    | cons h1 h2 => cases e⟩
theorem gs_cons {v1 vs : List Nat} {t : Gv} {ts : Gvs} (h1 : PG X e (tTg K cl v1 t)) (h2 : PGs X es (tTgs K cl vs ts))
    (hs : (assignEach (e :: es) X.env).map (·.2) = assign e X.env :: (assignEach es X.env).map (·.2) := by rfl) : PGs X (e :: es) (tTgs K cl (v1 ++ vs) (gsCons t ts)) :=
  ⟨fun pins s σ H ws us Q I r ⟨E0, H0, E, ρ, ds, ρ', rl, h, q, k⟩ => by
    refine (pgs_cons h1 h2 hs).run pins s σ H ws us Q I r ?_
    cases h with
    | nil => cases q
    | @cons v vs' d ds' k1 k2 =>
      have q : (t d ρ).bind (fun ρ' => ts ds' ρ') = some ρ' := q
      cases z : t d ρ with
      | none => rw [z] at q; cases q
      | some ρ1 =>
        rw [z] at q
        exact ⟨_, _, rfl, E0, H0, E, ρ, d, ρ1, rl, k1, z, fun σ1 r1 w1 => ⟨E0, H0, E, ρ1, ds', ρ', r1, k2, q, fun σ2 r2 w2 => k σ2 r2 fun w3 hw => (w2 w3 fun i hi => hw i (List.mem_append_right _ hi)).trans (w1 w3 fun i hi => hw i (List.mem_append_left _ hi))⟩⟩⟩
@[simp] def gT (ts : Gvs) : Gv := fun d ρ => match d with
  | .tup ds => ts ds ρ
  | _ => none
theorem g_tup {vs : List Nat} {ts : Gvs} {k m : Nat} (hc : X.calm = true) (h : PGs X es (tTgs X.K cl vs ts)) (hm : ∀ ds ρ ρ', ts ds ρ = some ρ' → ds.length = m)
    (hn : (assignEach es X.env).length = m := by rfl) (hst : (assignEach es X.env).findIdx? (·.1) = none := by rfl) : PG X (.Tuple es k pos) (tTg X.K cl vs (gT ts)) :=
  PG.imp (pg_tup hc h hn hst) fun v σ H Q ⟨E0, H0, E, ρ, d, ρ', r, hd, e, k⟩ => by
    unfold gT at e
    split at e
    · rename_i ds
      cases hd with
      | tup h1 h2 => exact ⟨_, _, rfl, SqT.of (r.gr.eh _ _ h1), by rw [h2.length]; exact hm _ _ _ e, E0, H0, E, ρ, ds, ρ', r, h2, e, k⟩
    · cases e
theorem gs_len0 : ∀ (ds : List Dt) ρ ρ', gsNil ds ρ = some ρ' → ds.length = 0
  | [], _, _, _ => rfl
  | _ :: _, _, _, h => nomatch h
theorem gs_lenS {t : Gv} {ts : Gvs} {m : Nat} (h : ∀ ds ρ ρ', ts ds ρ = some ρ' → ds.length = m) : ∀ (ds : List Dt) ρ ρ', gsCons t ts ds ρ = some ρ' → ds.length = m + 1
  | [], _, _, q => nomatch q
  | d :: ds, ρ, ρ', q => by
    have q : (t d ρ).bind (fun ρ' => ts ds ρ') = some ρ' := q
    cases z : t d ρ with
    | none => rw [z] at q; cases q
    | some ρ1 => rw [z] at q; simp [h ds ρ1 ρ' q]
@[simp] def sAsg (f : Ev) (tg : Gv) : Sv := fun ρ => rob (f ρ) ρ fun d => match tg d ρ with
  | some ρ' => .nx ρ'
  | none => .st
theorem s_asg {vs : List Nat} {gt : Gv} (he : PE X e (tD K cl W f)) (hg : PG X tg (tTg K cl vs gt)) (hs : swapsWithSole [tg] e pos.line X.env = pure false := by rfl) (hw : swappedStores [tg] e X.env = pure none := by rfl)
    (h1 : (assignEach [tg] X.env).map (·.2) = [assign tg X.env] := by rfl) : PS X (.Assign [tg] e pos) (tS K cl W (sAsg f gt)) :=
  PS.imp (ps_asg he hg hs hw h1) fun D σ H ⟨E0, H0, E, ρ, r, k⟩ => ⟨E0, H0, E, ρ, r, (rob_an r k).imp fun d k v E' H' g s => by
    split at k
    · rename_i ρ' q
      exact ⟨E0, H0, E', ρ, d, ρ', r.grow g, s, q, fun σ' r' _ => k σ' E' H' r' g.ee⟩
    · exact k.elim⟩

/-! ### what is walked -/
structure Walk (K : PySem.W.Frag) (cl : Str → Addr) (J : It) (E : Hp) (ds : List Dt) : Prop where
  go : ∀ i E1 H1, Sub E E1 → Sub E1 H1 → i < ds.length → J.go i H1
  stop : ∀ E1 H1, Sub E E1 → Sub E1 H1 → J.stop ds.length H1
  yld : ∀ i E1 H1 x H2 d, Sub E E1 → Sb E1 H1 → J.yld i H1 x H2 → ds[i]? = some d → ∃ E2, Gr E1 H1 E2 H2 ∧ Dn K cl E2 x d
variable (K cl) in
def tI (W : L2.WX) (src : Av) : TI := fun σ H R => ∃ E0 H0 E ρ, Rl K cl E0 H0 E H σ ρ ∧ An cl W σ E H (src ρ) fun ds => ∀ J E' H', Gr E H E' H' → Walk K cl J E' ds → R J H'
/-- over a list, a tuple -/
@[simp] def cSeq (f : Ev) : Av := fun ρ => (f ρ).bind fun d => match d with
  | .lst ds => .ok ds
  | _ => .st
@[simp] def cSeqT (f : Ev) : Av := fun ρ => (f ρ).bind fun d => match d with
  | .tup ds => .ok ds
  | _ => .st
theorem i_list (h : PE X e (tD X.K cl W f)) : PI X tg e (tI X.K cl W (cSeq f)) :=
  PI.imp (pi_list h) fun σ H R ⟨E0, H0, E, ρ, r, k⟩ => ⟨E0, H0, E, ρ, r, (An.bind k).imp fun d k v E' H' g s => by
    cases s with
    | lst hs hr =>
      rename_i a vs ds
      have hs : SqL X.K E' a vs := SqL.of hs
      refine ⟨a, rfl, ⟨vs, g.eh.sqL hs⟩, k _ E' H' g ⟨fun i E1 H1 s1 s2 hi => ?_, fun E1 H1 s1 s2 => ⟨vs, s2.sqL (s1.sqL hs), by rw [hr.length]; exact Nat.le_refl _⟩, fun i E1 H1 x H2 d s1 s2 y hd => ?_⟩⟩
      · obtain ⟨u, hu, _⟩ := hr.get (List.getElem?_eq_getElem hi)
        exact ⟨vs, u, s2.sqL (s1.sqL hs), hu⟩
      · obtain ⟨rfl, y⟩ := y
        have z := y vs (s2.sub.sqL (s1.sqL hs))
        obtain ⟨u, hu, hd⟩ := hr.get hd
        rw [z] at hu; cases hu
        exact ⟨E1, Gr.refl s2.sub, hd.mono s1⟩
    | _ => exact k.elim⟩
theorem i_tup (h : PE X e (tD X.K cl W f)) : PI X tg e (tI X.K cl W (cSeqT f)) :=
  PI.imp (pi_tup h) fun σ H R ⟨E0, H0, E, ρ, r, k⟩ => ⟨E0, H0, E, ρ, r, (An.bind k).imp fun d k v E' H' g s => by
    cases s with
    | tup hs hr =>
      rename_i a vs ds
      have hs : SqT X.K E' a vs := SqT.of hs
      refine ⟨a, rfl, ⟨vs, g.eh.sqT hs⟩, k _ E' H' g ⟨fun i E1 H1 s1 s2 hi => ?_, fun E1 H1 s1 s2 => ⟨vs, s2.sqT (s1.sqT hs), by rw [hr.length]; exact Nat.le_refl _⟩, fun i E1 H1 x H2 d s1 s2 y hd => ?_⟩⟩
      · obtain ⟨u, hu, _⟩ := hr.get (List.getElem?_eq_getElem hi)
        exact ⟨vs, u, s2.sqT (s1.sqT hs), hu⟩
      · obtain ⟨rfl, y⟩ := y
        have z := y vs (s2.sub.sqT (s1.sqT hs))
        obtain ⟨u, hu, hd⟩ := hr.get hd
        rw [z] at hu; cases hu
        exact ⟨E1, Gr.refl s2.sub, hd.mono s1⟩
    | _ => exact k.elim⟩
def rngD (lo : Int) (n : Nat) : List Dt := (List.range n).map fun i => .int (lo + (i : Nat))
theorem walk_range {E : Hp} {lo : Int} {n : Nat} : Walk K cl (Itr lo n) E (rngD lo n) where
  go := fun i _ _ _ _ hi => by unfold rngD at hi; show i < n; simpa using hi
  stop := fun _ _ _ _ => by unfold rngD; simp [Itr]
  yld := fun i E1 H1 x H2 d s1 s2 y hd => by
    obtain ⟨rfl, rfl⟩ := y
    unfold rngD at hd
    rw [List.getElem?_map] at hd
    have hi : i < n := by
      cases q : (List.range n)[i]? with
      | none => rw [q] at hd; cases hd
      | some j => have := (List.getElem?_eq_some_iff.mp q).1; simpa using this
    rw [List.getElem?_range hi] at hd
    cases hd
    exact ⟨E1, Gr.refl s2.sub, .int _⟩
def inR (i : Int) : Bool := decide (-(2 ^ 62) ≤ i) && decide (i < 2 ^ 62)
theorem inR_iff {i : Int} (h : inR i = true) : -(2 ^ 62) ≤ i ∧ i < 2 ^ 62 := by
  unfold inR at h
  rw [Bool.and_eq_true] at h
  exact ⟨of_decide_eq_true h.1, of_decide_eq_true h.2⟩
@[simp] def cRng1 (fa : Av) : Av := fun ρ => (fa ρ).bind fun xs => match xs with
  | [.int j] => if inR j = true then .ok (rngD 0 j.toNat) else .st
  | _ => .st
@[simp] def cRng2 (fa : Av) : Av := fun ρ => (fa ρ).bind fun xs => match xs with
  | [.int i, .int j] => if inR i = true ∧ inR j = true then .ok (rngD i (j - i).toNat) else .st
  | _ => .st
theorem i_range1 (hg : Gl X "range") (hm : X.mg "range" = none) (ha : PA X [a] (tA K cl W (fun E _ v d => Dn K cl E v d) fa)) (hs : starEach [a] X.env = [(false, eval a X.env)] := by rfl) : PI X tg (.Call (.Name "range" p) [a] [] pos) (tI K cl W (cRng1 fa)) :=
  PI.imp (pi_range1 hg hm ha hs) fun σ H R ⟨E0, H0, E, ρ, r, k⟩ => ⟨E0, H0, E, ρ, r, (An.bind k).imp fun d k v E' H' g s => by
    split at k
    · rename_i j
      obtain ⟨hj, k⟩ := An.ite k
      have := DnA.of s
      cases this with
      | cons h1 h2 =>
        cases h2; cases h1
        exact ⟨j, rfl, (inR_iff hj).1, (inR_iff hj).2, k _ E' H' g walk_range⟩
    · exact k.elim⟩
theorem i_range2 (hg : Gl X "range") (hm : X.mg "range" = none) (ha : PA X [a, b] (tA K cl W (fun E _ v d => Dn K cl E v d) fa)) (hs : starEach [a, b] X.env = [(false, eval a X.env), (false, eval b X.env)] := by rfl) (hs2 : starEach [b] X.env = [(false, eval b X.env)] := by rfl) :
    PI X tg (.Call (.Name "range" p) [a, b] [] pos) (tI K cl W (cRng2 fa)) :=
  PI.imp (pi_range2 hg hm ha hs hs2) fun σ H R ⟨E0, H0, E, ρ, r, k⟩ => ⟨E0, H0, E, ρ, r, (An.bind k).imp fun d k v E' H' g s => by
    split at k
    · rename_i i j
      obtain ⟨⟨hi, hj⟩, k⟩ := An.ite k
      have := DnA.of s
      cases this with
      | cons h1 h2 =>
        cases h2 with
        | cons h2 h3 =>
          cases h3; cases h1; cases h2
          exact ⟨i, j, rfl, ⟨(inR_iff hi).1, (inR_iff hi).2, (inR_iff hj).1, (inR_iff hj).2⟩, k _ E' H' g walk_range⟩
    · exact k.elim⟩

/-! ### for -/
def goFor (tg : Gv) (fg : List Nat) (body : Sv) : List Dt → List Sl → Ro
  | [], ρ => .nx ρ
  | d :: ds, ρ => match tg d ρ with
    | none => .st
    | some ρ1 => match body ρ1 with
      | .nx ρ2 => goFor tg fg body ds (fgt fg ρ2)
      | .ct ρ2 => goFor tg fg body ds (fgt fg ρ2)
      | .bk ρ2 => .nx ρ2
      | .rt d => .rt d
      | .ex n ρ2 => .ex n ρ2
      | .st => .st
theorem goFor_cons {tg : Gv} {fg : List Nat} {body : Sv} {d : Dt} {ds : List Dt} {ρ : List Sl} : goFor tg fg body (d :: ds) ρ = match tg d ρ with
    | none => .st
    | some ρ1 => match body ρ1 with
      | .nx ρ2 => goFor tg fg body ds (fgt fg ρ2)
      | .ct ρ2 => goFor tg fg body ds (fgt fg ρ2)
      | .bk ρ2 => .nx ρ2
      | .rt d => .rt d
      | .ex n ρ2 => .ex n ρ2
      | .st => .st := rfl
theorem goFor_nil {tg : Gv} {fg : List Nat} {body : Sv} {ρ : List Sl} : goFor tg fg body [] ρ = .nx ρ := rfl
@[simp] def sFor (src : Av) (tg : Gv) (fg : List Nat) (body : Sv) : Sv := fun ρ => rob (src ρ) ρ fun ds => goFor tg fg body ds ρ
theorem s_for {src : Av} {vs : List Nat} {gt : Gv} (fg : List Nat) (hp : PassesOwn (model X.prog X.w) X.A X.env X.xe) (hc : X.calm = true) (hi : PI X tg iter (tI K cl W src)) (hg : PG X tg (tTg K cl vs gt)) (hb : PSs X body (tS K cl W g))
    (hs : ∀ x, foldedSetIterable iter X.env x = pure x := by intro _; rfl) : PS X (.For tg iter body [] pos) (tS K cl W (sFor src gt fg g)) :=
  PS.imp (ps_for hp hc hi hg hb hs) fun D σ H ⟨E0, H0, E, ρ, r, k⟩ => ⟨E0, H0, E, ρ, r, (rob_an r k).imp fun ds k J E' H' gr wk => by
    refine ⟨fun i m σ H => m = ds.length - i ∧ i ≤ ds.length ∧ ∃ E1 ρ1, Rl K cl E0 H0 E1 H σ ρ1 ∧ Sub E' E1 ∧ goFor gt fg g (ds.drop i) ρ1 = goFor gt fg g ds ρ, ⟨_, rfl, Nat.zero_le _, E', ρ, r.grow gr, Sub.refl _, rfl⟩, ?_⟩
    rintro i m σ1 H1 ⟨rfl, hi, E1, ρ1, r1, s1, eq⟩
    have k1 : Ros K cl W D E0 H0 E1 (goFor gt fg g ds ρ) := Ros.up k (gr.ee.trans s1)
    by_cases hlt : i < ds.length
    · refine .inr ⟨wk.go i E1 H1 s1 r1.gr.eh hlt, fun σ' H' => ∃ E2 ρ2, Rl K cl E0 H0 E2 H' σ' ρ2 ∧ Sub E' E2 ∧ goFor gt fg g (ds.drop (i + 1)) ρ2 = goFor gt fg g ds ρ, fun σ' H' n => ⟨_, by omega, rfl, hlt, n⟩, fun x H2 y => ?_⟩
      obtain ⟨E2, g2, hx⟩ := wk.yld i E1 H1 x H2 _ s1 r1.sb y (List.getElem?_eq_getElem hlt)
      have r2 := r1.grow g2
      rw [List.drop_eq_getElem_cons hlt, goFor_cons] at eq
      rw [← eq] at k1
      revert k1 eq
      cases z : gt ds[i] ρ1 with
      | none => intro k1 _; exact k1.elim
      | some ρ2 =>
        intro k1 eq
        refine ⟨E0, H0, E2, ρ1, _, ρ2, r2, hx, z, fun σ2 r3 _ => ⟨E0, H0, E2, ρ2, r3, ?_⟩⟩
        have k1 := Ros.up k1 g2.ee
        dsimp only at k1 eq
        revert k1 eq
        cases z2 : g ρ2 with
        | st => intro _ k1; exact k1
        | nx ρ3 => intro eq k1; exact fun σ' E3 H3 r4 s4 => ⟨E3, _, r4.fgt, (s1.trans g2.ee).trans s4, eq⟩
        | ct ρ3 => intro eq k1; exact fun σ' E3 H3 r4 s4 => ⟨E3, _, r4.fgt, (s1.trans g2.ee).trans s4, eq⟩
        | bk ρ3 => intro eq k1; exact k1
        | rt d => intro eq k1; exact k1
        | ex n ρ3 => intro eq k1; exact k1
    · have e : i = ds.length := by omega
      subst e
      refine .inl ⟨wk.stop E1 H1 s1 r1.gr.eh, ?_⟩
      rw [List.drop_length] at eq
      rw [goFor_nil] at eq
      rw [← eq] at k1
      exact k1 σ1 E1 H1 r1 (Sub.refl _)⟩

/-! ### while -/
def goWh (t : Tv) (fg : List Nat) (body : Sv) : Nat → List Sl → Ro
  | 0, _ => .st
  | m + 1, ρ => rob (t ρ) ρ fun b => cond b (match body ρ with
      | .nx ρ2 => goWh t fg body m (fgt fg ρ2)
      | .ct ρ2 => goWh t fg body m (fgt fg ρ2)
      | .bk ρ2 => .nx ρ2
      | .rt d => .rt d
      | .ex n ρ2 => .ex n ρ2
      | .st => .st) (.nx ρ)
@[simp] def sWh (m : Nat) (t : Tv) (fg : List Nat) (body : Sv) : Sv := fun ρ => goWh t fg body m ρ
theorem s_while (m : Nat) (fg : List Nat) (hp : PassesOwn (model X.prog X.w) X.A X.env X.xe) (hc : PT X c (tT K cl W t)) (hb : PSs X body (tS K cl W g)) : PS X (.While c body [] pos) (tS K cl W (sWh m t fg g)) :=
  PS.imp (ps_while hp hc hb) fun D σ H ⟨E0, H0, E, ρ, r, k⟩ => by
    refine ⟨fun m σ H => ∃ E1 ρ1, Rl K cl E0 H0 E1 H σ ρ1 ∧ Ros K cl W D E0 H0 E1 (goWh t fg g m ρ1), ⟨m, E, ρ, r, k⟩, ?_⟩
    rintro m σ1 H1 ⟨E1, ρ1, r1, k1⟩
    cases m with
    | zero => exact k1.elim
    | succ m =>
      unfold goWh at k1
      refine ⟨E0, H0, E1, ρ1, r1, (rob_an r1 k1).imp fun b k2 E2 H2 g2 => ?_⟩
      have r2 := r1.grow g2
      have k2 := Ros.up k2 g2.ee
      cases b with
      | false => exact iteF (k2 σ1 E2 H2 r2 (Sub.refl _))
      | true =>
        refine iteT ⟨fun σ' H' => ∃ E3 ρ3, Rl K cl E0 H0 E3 H' σ' ρ3 ∧ Ros K cl W D E0 H0 E3 (goWh t fg g m ρ3), fun σ' H' n => ⟨m, Nat.lt_succ_self _, n⟩, E0, H0, E2, ρ1, r2, ?_⟩
        have k2 : Ros K cl W D E0 H0 E2 (match g ρ1 with
          | .nx ρ2 => goWh t fg g m (fgt fg ρ2)
          | .ct ρ2 => goWh t fg g m (fgt fg ρ2)
          | .bk ρ2 => .nx ρ2
          | .rt d => .rt d
          | .ex n ρ2 => .ex n ρ2
          | .st => .st) := k2
        revert k2
        cases z : g ρ1 with
        | st => exact fun k => k
        | nx ρ3 => exact fun k σ' E3 H3 r4 s4 => ⟨E3, _, r4.fgt, Ros.up k s4⟩
        | ct ρ3 => exact fun k σ' E3 H3 r4 s4 => ⟨E3, _, r4.fgt, Ros.up k s4⟩
        | bk ρ3 => exact fun k => k
        | rt d => exact fun k => k
        | ex n ρ3 => exact fun k => k
end
end Dl
namespace Dl
open PySem L2 PyProof.Rows
section
variable {K : PySem.W.Frag} {cl : Str → Addr} {X : Cx} {W : L2.WX} {R : Rel} {S : Rl4} {a b c e x tg iter elt : Expr} {es rest ifs : List Expr} {f : Ev} {t : Tv} {g h : Sv} {fa : Av} {pos p p2 : Pos} {st : Stmt} {sts body : List Stmt} {D : Ends} {E0 H0 E H : Hp} {n : Str}

/-! ### list comprehensions -/
@[simp] def tvYes : Tv := fun _ => .ok true
variable (K cl) in
def tTs (t : Tv) : TT := tT K cl (fun _ _ _ _ => False) t
theorem ts_nil : PTs X [] (tTs K cl tvYes) := ⟨fun pins s σ H Q I ⟨E0, H0, E, ρ, r, k⟩ => pts_nil.run pins s σ H Q I (k E H (Gr.refl r.sb.sub))⟩
theorem ts_one (h : PT X c (tT K cl (fun _ _ _ _ => False) t)) : PTs X [c] (tTs K cl t) := pts_one h
def goLc (tg : Gv) (t : Tv) (f : Ev) : List Dt → List Sl → Rs (List Dt)
  | [], _ => .ok []
  | d :: ds, ρ => match tg d ρ with
    | none => .st
    | some ρ1 => match t ρ1 with
      | .ok true => (match f ρ1 with
        | .ok y => (goLc tg t f ds ρ).bind fun r => .ok (y :: r)
        | _ => .st)
      | .ok false => goLc tg t f ds ρ
      | _ => .st
theorem goLc_cons {tg : Gv} {t : Tv} {f : Ev} {d : Dt} {ds : List Dt} {ρ : List Sl} : goLc tg t f (d :: ds) ρ = match tg d ρ with
    | none => .st
    | some ρ1 => match t ρ1 with
      | .ok true => (match f ρ1 with
        | .ok y => (goLc tg t f ds ρ).bind fun r => .ok (y :: r)
        | _ => .st)
      | .ok false => goLc tg t f ds ρ
      | _ => .st := rfl
@[simp] def cLc (own : List Nat) (src : Av) (tg : Gv) (t : Tv) (f : Ev) : Ev := fun ρ => (src ρ).bind fun ds => if ds.length ≤ lim then (match goLc tg t f ds (fgt own ρ) with
  | .ok r => .ok (.lst r)
  | _ => .st) else .st
theorem lc_ {src : Av} {vs own : List Nat} {gt : Gv} (hv : ∀ i ∈ vs, i ∈ own) (σ : L2.St) (H : Hp) (Q : VK) (q : tN K cl W (cLc own src gt t f) σ H Q) :
    tLc (tI K cl W src) (tTg K cl vs gt) (tTs K cl t) (tD K cl (fun _ _ _ _ => False) f) own σ H Q := by
  obtain ⟨E0, H0, E, ρ, r, k⟩ := q
  refine ⟨E0, H0, E, ρ, r, (An.bind k).imp fun ds k J E1 H1 g1 wk L nL => ?_⟩
  obtain ⟨hl, k⟩ := An.ite k
  cases full : goLc gt t f ds (fgt own ρ) with
  | st => rw [full] at k; exact k.elim
  | ex n => rw [full] at k; exact k.elim
  | ok out =>
  rw [full] at k
  have r1 := r.grow g1
  have nE1 : E1 L = none := r1.gr.eh.fresh nL
  have keep : ∀ {E2 H2 : Hp} {o : HO}, Gr E1 H1 E2 H2 → E2 L = none → ¬ Imm o → (∀ u, H2 L = some u → (∀ ps, u ≠ .tbl ps) ∧ ∀ c q, u ≠ LamX.CodeO c q) → Gr E1 H1 E2 (upd H2 L o) := fun g2 n2 no nu => g2.wr nL n2 no nu
  refine ⟨fun i m H2 => m = ds.length - i ∧ i ≤ ds.length ∧ ∃ E2 acc accD, Gr E1 H1 E2 H2 ∧ E2 L = none ∧ H2 L = some (.lst acc) ∧ DnA K cl E2 acc accD ∧ accD.length ≤ i ∧
    (goLc gt t f (ds.drop i) (fgt own ρ)).bind (fun r => Rs.ok (accD ++ r)) = .ok out, ⟨_, rfl, Nat.zero_le _, E1, [], [], keep (Gr.refl r1.gr.eh) nE1 (fun z => z) (fun u e => by rw [nL] at e; cases e), nE1, upd_same, .nil, Nat.le_refl _, ?_⟩, ?_⟩
  · rw [List.drop_zero, full]; rfl
  rintro i m H2 ⟨rfl, hi, E2, acc, accD, g2, n2, hL, hA, hle, eq⟩
  have r2 := r1.grow g2
  by_cases hlt : i < ds.length
  · refine .inr ⟨wk.go i E2 H2 g2.ee r2.gr.eh hlt, fun H' => ∃ E2 acc accD, Gr E1 H1 E2 H' ∧ E2 L = none ∧ H' L = some (.lst acc) ∧ DnA K cl E2 acc accD ∧ accD.length ≤ i + 1 ∧
      (goLc gt t f (ds.drop (i + 1)) (fgt own ρ)).bind (fun r => Rs.ok (accD ++ r)) = .ok out, fun H' n => ⟨_, by omega, rfl, hlt, n⟩, fun y H3 hy => ?_⟩
    obtain ⟨E3, g3, hx⟩ := wk.yld i E2 H2 y H3 _ g2.ee r2.sb hy (List.getElem?_eq_getElem hlt)
    have r3 := (r2.grow g3).wipe own own (fun _ h => h)
    rw [List.drop_eq_getElem_cons hlt, goLc_cons] at eq
    cases z : gt ds[i] (fgt own ρ) with
    | none => rw [z] at eq; cases eq
    | some ρ1 =>
    rw [z] at eq
    dsimp only at eq
    refine ⟨E0, H0, E3, _, _, ρ1, r3, hx, z, fun σ' r4 hw => ⟨?_, ?_⟩⟩
    · have hh : ∀ ws : List Nat, wipe (wipe σ ws) ws = wipe σ ws := by
        have gen : ∀ (ws us : List Nat), (∀ i ∈ ws, i ∈ us) → ∀ τ : L2.St, wipe (wipe τ ws) us = wipe τ us := by
          intro ws
          induction ws with
          | nil => intro us _ τ; rfl
          | cons j ws ih =>
            intro us hu τ
            show wipe ((wipe τ ws).set j none) us = _
            rw [wipe_set (hu j List.mem_cons_self)]
            exact ih us (fun i hi => hu i (List.mem_cons_of_mem _ hi)) τ
        exact fun ws => gen ws ws (fun _ h => h) σ
      rw [hw own hv, hh]
    refine ⟨E0, H0, E3, ρ1, r4, ?_⟩
    cases zt : t ρ1 with
    | st => rw [zt] at eq; cases eq
    | ex n => rw [zt] at eq; cases eq
    | ok bo =>
    rw [zt] at eq
    intro E4 H4 g4
    have g24 := (g2.trans g3).trans g4
    have n4 : E4 L = none := (g3.trans g4).nw L (by rw [hL]; simp) n2
    cases bo with
    | false =>
      refine iteF ⟨E4, acc, accD, g24, n4, (g3.trans g4).hh.nt hL (fun _ z => nomatch z), hA.mono (g3.trans g4).ee, Nat.le_succ_of_le hle, eq⟩
    | true =>
      refine iteT ⟨E0, H0, E4, ρ1, r4.grow g4, ?_⟩
      dsimp only at eq
      cases ze : f ρ1 with
      | st => rw [ze] at eq; cases eq
      | ex n => rw [ze] at eq; cases eq
      | ok y =>
      rw [ze] at eq
      intro v E5 H5 g5 hd
      have g25 := (g3.trans g4).trans g5
      have n5 : E5 L = none := g25.nw L (by rw [hL]; simp) n2
      have h5 := g25.hh.nt hL (fun _ z => nomatch z)
      refine ⟨acc, h5, by rw [hA.length]; exact lim_lt (by omega), E5, acc ++ [v], accD ++ [y], keep (g2.trans g25) n5 (fun z => z) (fun u e => by rw [h5] at e; cases e; exact ⟨fun _ z => (nomatch z), fun _ _ z => nomatch z⟩), n5, upd_same, (hA.mono g25.ee).append (.one hd), by rw [List.length_append]; simpa using hle, ?_⟩
      revert eq
      cases goLc gt t f (ds.drop (i + 1)) (fgt own ρ) with
      | st => intro eq; cases eq
      | ex n => intro eq; cases eq
      | ok r =>
        intro eq
        have eq : Rs.ok (accD ++ y :: r) = Rs.ok out := eq
        show Rs.ok (accD ++ [y] ++ r) = Rs.ok out
        rw [← eq]; simp
  · have e : i = ds.length := by omega
    subst e
    rw [List.drop_length] at eq
    have eq : Rs.ok (accD ++ []) = Rs.ok out := eq
    rw [List.append_nil] at eq
    cases eq
    exact .inl ⟨wk.stop E2 H2 g2.ee r2.gr.eh, k _ E2 H2 (g1.trans g2) ⟨L, rfl, g1.fresh nL, n2, acc, hL, hA⟩⟩
theorem n_lc {scope : Scope} {own : List (Str × Nat)} {src : Av} {vs : List Nat} {gt : Gv} (hv : ∀ i ∈ vs, i ∈ own.map (·.2)) (hc : X.calm = true) (hN : X.N.Nodup) (hi : PI X tg iter (tI K cl W src)) (ok : BlkOk X.N X.env.scope scope own)
    (hg : ∀ (s : Shared) (H : Hp) (C : Addr) (cs : List (Str × Addr)) (fp : List Addr), PG (X.blk s H scope (compEnvC scope cs C X.env) fp) tg (tTg K cl vs gt))
    (ht : ∀ (s : Shared) (H : Hp) (C : Addr) (cs : List (Str × Addr)) (fp : List Addr), PTs (X.blk s H scope (compEnvC scope cs C X.env) fp) ifs (tTs K cl t))
    (he : ∀ (s : Shared) (H : Hp) (C : Addr) (cs : List (Str × Addr)) (fp : List Addr), PE (X.blk s H scope (compEnvC scope cs C X.env) fp) elt (tD K cl (fun _ _ _ _ => False) f)) (hs : ∀ x, foldedSetIterable iter X.env x = pure x := by intro _; rfl) :
    PE X (.ListComp elt [⟨tg, iter, ifs, 0⟩] scope pos) (tN K cl W (cLc (own.map (·.2)) src gt t f)) := PE.imp (pe_lc hc hN hi ok hg ht he hs) (lc_ hv)
/-- y = [..] on one line -/
theorem s_setLc {i : Nat} {py spos : Pos} {scope : Scope} {own : List (Str × Nat)} {src : Av} {vs : List Nat} {gt : Gv} (hv : ∀ i ∈ vs, i ∈ own.map (·.2)) (hc : X.calm = true) (hN : X.N.Nodup) (hy : X.N[i]? = some n) (hyl : X.env.scope.names.lookup n = some .local)
    (hsw : swapsWith (.ListComp elt [⟨tg, iter, ifs, 0⟩] scope pos) (some (.Name n py)) spos.line X.env = pure true) (hi : PI X tg iter (tI K cl W src)) (ok : BlkOk X.N X.env.scope scope own)
    (hg : ∀ (s : Shared) (H : Hp) (C : Addr) (cs : List (Str × Addr)) (fp : List Addr), PG (X.blk s H scope (compEnvC scope cs C X.env) fp) tg (tTg K cl vs gt))
    (ht : ∀ (s : Shared) (H : Hp) (C : Addr) (cs : List (Str × Addr)) (fp : List Addr), PTs (X.blk s H scope (compEnvC scope cs C X.env) fp) ifs (tTs K cl t))
    (he : ∀ (s : Shared) (H : Hp) (C : Addr) (cs : List (Str × Addr)) (fp : List Addr), PE (X.blk s H scope (compEnvC scope cs C X.env) fp) elt (tD K cl (fun _ _ _ _ => False) f)) (hs : ∀ x, foldedSetIterable iter X.env x = pure x := by intro _; rfl) :
    PS X (.Assign [.Name n py] (.ListComp elt [⟨tg, iter, ifs, 0⟩] scope pos) spos) (tS K cl W (sSetN i (cLc (own.map (·.2)) src gt t f))) :=
  PS.imp (ps_setLc hc hN hy hyl hsw hi ok hg ht he hs) fun D σ H ⟨E0, H0, E, ρ, r, k⟩ =>
    lc_ (W := W) hv σ H _ ⟨E0, H0, E, ρ, r, (rob_an r k).imp fun d k v E' H' g s => k _ E' H' (r.setO g s i) g.ee⟩

/-! ### append -/
@[simp] def sApp (i : Nat) (f : Ev) : Sv := fun ρ => match ρ[i]? with
  | some (.ow (.lst ds)) => rob (f ρ) ρ fun d => if ds.length ≤ lim then .nx (ρ.set i (.ow (.lst (ds ++ [d])))) else .st
  | _ => .st
theorem s_app {i : Nat} {apos cpos : Pos} (ho : PE X x (tVar i)) (ha : PE X e (tD X.K cl W f)) (hs : swapsWith (.Call (.Attribute x "append" apos) [e] [] cpos) none pos.line X.env = pure false := by rfl)
    (hbase : attributeBase x "append" X.env (eval x X.env) = eval x X.env := by rfl)
    (hfew : ((backTo cpos (starEach [e] X.env)).all (fun x => !x.1) && (backToKw cpos (keywordEach [] X.env)).all (fun x => x.1.isSome)
      && decide (([e] : List Expr).length + ([] : List Keyword).length + (if ([] : List Keyword).isEmpty then 0 else 1) < 30)) = true := by rfl)
    (hline : (apos.endLine == cpos.line) = true := by rfl) (hst : starEach [e] X.env = (false, eval e X.env) :: starEach [] X.env := by rfl) (hplain : (backTo cpos (starEach [] X.env)).any (·.1) = false := by rfl) :
    PS X (.Expr (.Call (.Attribute x "append" apos) [e] [] cpos) pos) (tS X.K cl W (sApp i f)) :=
  PS.imp (ps_expr (pe_bm PySem.F.plainAttrs_list PySem.F.slot_list_append PySem.F.type_list_append mt_append ho (pa_cons ha pa_nil hst) hbase hfew hline hst hplain) hs) fun D σ H ⟨E0, H0, E, ρ, r, k⟩ => by
    unfold sApp at k
    split at k
    · rename_i ds hi
      obtain ⟨a, h1, h2, h3, vs, h4, h5⟩ := r.ow i _ hi
      refine ⟨_, h1, .inl ⟨rfl, _, .inl (.inl h4)⟩, E0, H0, E, ρ, r, (rob_an r k).imp fun d k v E' H' g s => ?_⟩
      split at k
      · rename_i hl
        have r' := r.grow g
        refine ⟨a, vs, v, rfl, rfl, g.hh.nt h4 (fun _ z => nomatch z), by rw [h5.length]; exact lim_lt hl, ?_⟩
        exact k σ E' _ (r'.write hi h1 (o := .lst (vs ++ [v])) (fun z => z) ⟨vs ++ [v], upd_same, (h5.mono g.ee).append (.one s)⟩) g.ee
      · exact k.elim
    · exact k.elim

/-! ### raising -/
/-- the exception class n of the text, over ValueError, without __init__ -/
structure XCls (K : PySem.W.Frag) (mg : Str → Option Value) (n : Str) (C : Addr) : Prop where
  g : mg n = some (.ref C)
  x : PySem.W.excIn K C [.type "ValueError", .type "Exception", .type "BaseException", .type "object"] "ValueError.__new__" = true
  k : PySem.W.keepIn K (.ref C) = true
  b : PySem.W.subIn K (.ref C) (.type "BaseException") = some true
  t : PySem.W.typeIn K (.ref C) = some (.type "type")
@[simp] def sRaise (n : Str) : Sv := fun ρ => .ex n ρ
theorem s_raise {m : Str} {j : Nat} {pos' : Pos} (hc : X.calm = true) (tk : Takes X W) (xc : XCls X.K X.mg n (cl n)) (hg : Gl X n) (hdb : (n == ("__debug__" : Str)) = false := by decide) :
    PS X (.Raise (some (.Call (.Name n p) [.Constant (.str m) j p2] [] pos')) none pos) (tS X.K cl W (sRaise n)) :=
  PS.imp (ps_raise hc tk (pmk_own PySem.F.excBase_ValueError xc.x xc.g xc.k (raises_own xc.b xc.t) hg hdb)) fun D σ H ⟨E0, H0, E, ρ, r, k⟩ => k σ E H r (Sub.refl _)
end

/-! ### a def -/
@[simp] def runF (np nn : Nat) (g : Sv) (ds : List Dt) : Rs Dt := if ds.length = np then (match g (ds.map Sl.va ++ List.replicate (nn - ds.length) Sl.no) with
  | .rt d => .ok d
  | .nx _ => .ok .non
  | .ex n _ => .ex n
  | _ => .st) else .st
section
variable {P : Program} {w : World} {K : PySem.W.Frag} {mg : Str → Option Value} {base : Heap} {cl : Str → Addr}
theorem start_rl {E H : Hp} {N : List Str} {vs : List V} {ds : List Dt} (sb : Sb E H) (tb : TbOk cl H) (h : DnA K cl E vs ds) : Rl K cl E H E H (L2.start N vs) (ds.map Sl.va ++ List.replicate (N.length - ds.length) Sl.no) where
  sb0 := sb
  tb0 := tb
  gr := Gr.refl sb.sub
  len := by unfold L2.start; simp [h.length]
  va := fun i d q => by
    by_cases hi : i < ds.length
    · rw [List.getElem?_append_left (by simpa using hi), List.getElem?_map] at q
      cases z : ds[i]? with
      | none => rw [z] at q; cases q
      | some d' =>
        rw [z] at q; cases q
        obtain ⟨v, h1, h2⟩ := h.get z
        refine ⟨v, ?_, h2⟩
        unfold L2.start
        have : i < vs.length := by rw [h.length]; exact hi
        rw [List.getElem?_append_left (by simpa using this), List.getElem?_map, h1]; rfl
    · rw [List.getElem?_append_right (by simpa using hi)] at q
      rw [List.getElem?_replicate] at q
      split at q <;> cases q
  ow := fun i d q => by
    by_cases hi : i < ds.length
    · rw [List.getElem?_append_left (by simpa using hi), List.getElem?_map] at q
      cases z : ds[i]? with
      | none => rw [z] at q; cases q
      | some d' => rw [z] at q; cases q
    · rw [List.getElem?_append_right (by simpa using hi)] at q
      rw [List.getElem?_replicate] at q
      split at q <;> cases q
  ne := fun i j d e a _ q _ _ => by
    by_cases hi : i < ds.length
    · rw [List.getElem?_append_left (by simpa using hi), List.getElem?_map] at q
      cases z : ds[i]? with
      | none => rw [z] at q; cases q
      | some d' => rw [z] at q; cases q
    · rw [List.getElem?_append_right (by simpa using hi)] at q
      rw [List.getElem?_replicate] at q
      split at q <;> cases q
  pn := fun i p d q => by
    by_cases hi : i < ds.length
    · rw [List.getElem?_append_left (by simpa using hi), List.getElem?_map] at q
      cases z : ds[i]? with
      | none => rw [z] at q; cases q
      | some d' => rw [z] at q; cases q
    · rw [List.getElem?_append_right (by simpa using hi)] at q
      rw [List.getElem?_replicate] at q
      split at q <;> cases q
theorem Fn.mk' {x q : Str} {st : Stmt} {fA : Addr} {fd : FuncData} {N ps : List Str} {k : Nat} {g : Sv} (F : Fun K x q st fA fd) (S : FnScope N ps (defScope st)) (hm : mg x = some (.ref fA)) (hb : Binds K fd ps [])
    (hbody : ∀ (cdv : Value) (A : Around) (outer : List Env) (s : Shared) (H : Hp) (E : XK), Room k (A.deeper (envOfC q (defScope st) s.heap.objs.size fA cdv)) →
      PSs (cxOf (L2.CX P w) P w K mg base N q (defScope st) fA cdv A outer s H E) (defBody st) (tS K cl (fun c d _ H => E c d H) g)) :
    Fn P w K mg base cl x (k + 1) ps (runF ps.length N.length g) := by
  refine ⟨fA, fd, F.okX S (fun vs H Q E h => ?_) (fun cdv A outer s H vs Q E hr h => ?_), hm, F.kp, hb, by obtain ⟨oc, od, kV, doc, pm, an, cdv, ct, osl, _, lk, _⟩ := F.ex; exact ⟨oc, od, osl, lk⟩⟩
  · obtain ⟨E1, ds, sb, tb, hd, h⟩ := h
    rw [hd.length]
    unfold runF at h
    by_cases hl : ds.length = ps.length
    · exact hl
    · rw [if_neg hl] at h; exact h.elim
  · obtain ⟨E1, ds, sb, tb, hd, h⟩ := h
    refine ⟨_, hbody cdv A outer s H E hr, E1, H, E1, _, start_rl (N := N) sb tb hd, ?_⟩
    unfold runF at h
    by_cases hl : ds.length = ps.length
    · rw [if_pos hl] at h
      revert h
      cases g (ds.map Sl.va ++ List.replicate (N.length - ds.length) Sl.no) with
      | st => exact fun h => h
      | nx ρ => exact fun h σ' E' H' r _ => h _ E' H' r.gr .non
      | bk ρ => exact fun h => h.elim
      | ct ρ => exact fun h => h.elim
      | rt d => exact fun h v E' H' g' s => h v E' H' g' s
      | ex n ρ => exact fun h σ' E' H' r _ => h E' H' r.gr
    · rw [if_neg hl] at h; exact h.elim
end
end Dl
namespace Dl
open PySem L2 PyProof.Rows
theorem hu_65 {A : Around} {k : Nat} (hr : Room k A) : A.units + 65 < cLine := by have := hr.un; omega
/-- the def x of the text: where it stands, how its arguments bind -/
def Dfn (K : PySem.W.Frag) (mg : Str → Option Value) (x : Str) (st : Stmt) (ps : List Str) : Prop := ∃ (f : Addr) (fd : FuncData), Fun K x x st f fd ∧ mg x = some (.ref f) ∧ ∀ (s : Shared) (us : List Value), us.length = ps.length → BindsTo s fd ⟨us, []⟩ (ps.zip us)
section
variable {P : Program} {w : World} {K : PySem.W.Frag} {mg : Str → Option Value} {base : Heap} {cl : Str → Addr}
theorem Dfn.mk {x : Str} {st : Stmt} {N ps : List Str} {k : Nat} {g : Sv} (F : Dfn K mg x st ps) (S : FnScope N ps (defScope st))
    (hbody : ∀ {fA : Addr} {cdv : Value} {A : Around} {outer : List Env} {s : Shared} {H : Hp} {E : XK}, Room k (cxOf (L2.CX P w) P w K mg base N x (defScope st) fA cdv A outer s H E).A →
      Takes (cxOf (L2.CX P w) P w K mg base N x (defScope st) fA cdv A outer s H E) (fun c d _ H => E c d H) →
      PassesOwn (model P w) (cxOf (L2.CX P w) P w K mg base N x (defScope st) fA cdv A outer s H E).A (cxOf (L2.CX P w) P w K mg base N x (defScope st) fA cdv A outer s H E).env (cxOf (L2.CX P w) P w K mg base N x (defScope st) fA cdv A outer s H E).xe →
      (cxOf (L2.CX P w) P w K mg base N x (defScope st) fA cdv A outer s H E).A.units + 64 < cLine → (cxOf (L2.CX P w) P w K mg base N x (defScope st) fA cdv A outer s H E).A.units + 65 < cLine → N.Nodup →
      PSs (cxOf (L2.CX P w) P w K mg base N x (defScope st) fA cdv A outer s H E) (defBody st) (tS K cl (fun c d _ H => E c d H) g)) :
    Fn P w K mg base cl x (k + 1) ps (runF ps.length N.length g) := by
  obtain ⟨f, fd, F, hm, hb⟩ := F
  exact Fn.mk' F S hm (fun s us _ hl => by rw [List.append_nil] at hl ⊢; exact hb s us hl) fun cdv A outer s H E hr => hbody hr (takes_of rfl rfl rfl rfl) (passes_of (K := fun e s'' => L2.CX P w outer H s E e s'') rfl) hr.units (hu_65 hr) S.nd
end
section
variable {K : PySem.W.Frag} {cl : Str → Addr} {X : Cx} {W : L2.WX} {R : Rel} {S : Rl4} {a b c e x tg iter elt : Expr} {es rest ifs : List Expr} {f g : Ev} {t : Tv} {fa : Av} {pos p p2 : Pos} {n : Str}
/-! ### in, not in -/
@[simp] def flD : Dt → Bool
  | .non | .bl _ | .int _ | .str _ => true
  | _ => false
/-- == of flat ones -/
@[simp] def eqF : Dt → Dt → Bool
  | .non, .non => true
  | .bl i, .bl j => i == j
  | .int i, .int j => i == j
  | .str i, .str j => i == j
  | .int i, .bl j => i == b2i j
  | .bl i, .int j => b2i i == j
  | _, _ => false
@[simp] def itemsD : Dt → Option (List Dt)
  | .lst ds => some ds
  | .tup ds => some ds
  | .cst ds => some ds
  | _ => none
def deepIn (x y : Dt) : Option Bool := match toPy x, toPy y with
  | some p, some (.list qs) => if SeqAt.shaped p && SeqAt.shaped (.list qs) then some (qs.any fun z => PyData.eqv z p) else none
  | some p, some (.tuple qs) => if SeqAt.shaped p && SeqAt.shaped (.tuple qs) then some (qs.any fun z => PyData.eqv z p) else none
  | _, _ => none
def inD (x y : Dt) : Option Bool := match itemsD y with
  | some ds => if flD x && ds.all flD then some (ds.any fun z => eqF z x) else deepIn x y
  | none => none
@[simp] def oIn (x y : Dt) : Option Dt := (inD x y).map .bl
@[simp] def oNin (x y : Dt) : Option Dt := (inD x y).map fun b => .bl (!b)
def rInT (K : PySem.W.Frag) (neg : Bool) : R2 := fun x y H Q => ∃ d ds, Dp K H x d ∧ Dp K H y (.tuple ds) ∧ SeqAt.shaped d = true ∧ SeqAt.shaped (.tuple ds) = true ∧ Q (.bl (if neg then !(ds.any fun z => PyData.eqv z d) else ds.any fun z => PyData.eqv z d)) H
theorem room_inT {A : Around} {ds : List PyData} {d : PyData} (h : SeqAt.shaped d = true) (hu : A.units + 65 < cLine) : A.units + 1 + min (PyData.depthAll ds) d.depth < cLine := by
  have h1 := SeqAt.depth_of_shaped h
  have h2 : min (PyData.depthAll ds) d.depth ≤ d.depth := Nat.min_le_right _ _
  omega
theorem op_inT (hu : X.A.units + 65 < cLine) : OpR X (compareOp .In) (rInT X.K false) := by
  intro pins s σ H x y v u Q I rx ry h
  obtain ⟨d, ds, hd, he, sd, se, q⟩ := h
  obtain ⟨as, r1⟩ := Dp.reads I d x v hd rx
  obtain ⟨bs, r2⟩ := Dp.reads I (.tuple ds) y u he ry
  exact SeqAt.in_tuple_reads r2 r1 (SeqAt.canLay_of_shaped se) (SeqAt.canLay_of_shaped sd) (room_inT sd hu) ⟨.bl _, H, I, rfl, q⟩
theorem op_ninT (hu : X.A.units + 65 < cLine) : OpR X (compareOp .NotIn) (rInT X.K true) := by
  intro pins s σ H x y v u Q I rx ry h
  obtain ⟨d, ds, hd, he, sd, se, q⟩ := h
  obtain ⟨as, r1⟩ := Dp.reads I d x v hd rx
  obtain ⟨bs, r2⟩ := Dp.reads I (.tuple ds) y u he ry
  exact SeqAt.notIn_tuple_reads r2 r1 (SeqAt.canLay_of_shaped se) (SeqAt.canLay_of_shaped sd) (room_inT sd hu) ⟨.bl _, H, I, rfl, q⟩
theorem flat_of {E : Hp} {v : V} {d : Dt} (h : Dn K cl E v d) (f : flD d = true) : flatV v = true := by cases h <;> first | rfl | exact Bool.noConfusion f
theorem eqF_of {E : Hp} {v w : V} {d e : Dt} (h : Dn K cl E v d) (k : Dn K cl E w e) (f1 : flD d = true) (f2 : flD e = true) : eqV v w = eqF d e := by
  cases h <;> first | exact Bool.noConfusion f1 | (cases k <;> first | exact Bool.noConfusion f2 | rfl)
theorem flats_of {E : Hp} : ∀ {ds : List Dt} {vs : List V}, DnA K cl E vs ds → ds.all flD = true → vs.all flatV = true
  | [], _, h, _ => by cases h; rfl
  | d :: ds, _, h, f => by
    cases h with
    | cons h r =>
      simp only [List.all_cons, Bool.and_eq_true] at f ⊢
      exact ⟨flat_of h f.1, flats_of r f.2⟩
theorem any_of {E : Hp} {v : V} {x : Dt} (h : Dn K cl E v x) (fx : flD x = true) : ∀ {ds : List Dt} {vs : List V}, DnA K cl E vs ds → ds.all flD = true → inV v vs = ds.any fun z => eqF z x
  | [], _, k, _ => by cases k; rfl
  | d :: ds, _, k, f => by
    cases k with
    | cons k r =>
      simp only [List.all_cons, Bool.and_eq_true] at f
      have := any_of h fx r f.2
      unfold inV at this ⊢
      simp only [List.any_cons, this, eqF_of k h f.1 fx]
theorem seq_of {E H : Hp} {v : V} {d : Dt} {ds : List Dt} (s : Sub E H) (h : Wk K cl E H v d) (e : itemsD d = some ds) : ∃ a vs, v = .ref a ∧ (SqL K H a vs ∨ SqT K H a vs) ∧ DnA K cl E vs ds := by
  cases d with
  | lst es => cases e; obtain ⟨a, vs, h1, h2, h3⟩ := h.items s; exact ⟨a, vs, h1, .inl h2, h3⟩
  | tup es => cases e; obtain ⟨a, vs, h1, h2, h3⟩ := h.itemsT s; exact ⟨a, vs, h1, .inr (SqT.of (s _ _ h2)), h3⟩
  | cst es =>
    cases e
    rcases h with h | ⟨a, rfl, _, h⟩
    · cases h with
      | cst hs hr => exact ⟨_, _, rfl, .inr (s.sqT hs), hr⟩
    · exact h.elim
  | _ => cases e
theorem in_ {E H : Hp} {v w : V} {x y : Dt} {r : Bool} (s : Sub E H) (h1 : Wk K cl E H v x) (h2 : Wk K cl E H w y) (e : inD x y = some r) :
    (∃ p xs, w = .ref p ∧ (SqL K H p xs ∨ SqT K H p xs) ∧ flatV v = true ∧ xs.all flatV = true ∧ r = inV v xs) ∨
    (∃ d ds, Dp K H v d ∧ Dp K H w (.list ds) ∧ SeqAt.shaped d = true ∧ SeqAt.shaped (.list ds) = true ∧ r = ds.any fun z => PyData.eqv z d) ∨
    (∃ d ds, Dp K H v d ∧ Dp K H w (.tuple ds) ∧ SeqAt.shaped d = true ∧ SeqAt.shaped (.tuple ds) = true ∧ r = ds.any fun z => PyData.eqv z d) := by
  unfold inD at e
  cases q : itemsD y with
  | none => rw [q] at e; cases e
  | some ds =>
    rw [q] at e
    dsimp only at e
    by_cases hf : (flD x && ds.all flD) = true
    · rw [if_pos hf] at e
      rw [Bool.and_eq_true] at hf
      obtain ⟨p, vs, rfl, hs, hr⟩ := seq_of s h2 q
      have k1 := h1.full s
      have k2 := hr.mono s
      cases e
      exact .inl ⟨p, vs, rfl, hs, flat_of k1 hf.1, flats_of k2 hf.2, (any_of k1 hf.1 k2 hf.2).symm⟩
    · rw [if_neg hf] at e
      have k1 := h1.full s
      have k2 := h2.full s
      unfold deepIn at e
      split at e
      · rename_i p qs q1 q2
        split at e
        · rename_i hs
          rw [Bool.and_eq_true] at hs
          cases e
          exact .inr (.inl ⟨p, qs, k1.dp q1, k2.dp q2, hs.1, hs.2, rfl⟩)
        · cases e
      · rename_i p qs q1 q2
        split at e
        · rename_i hs
          rw [Bool.and_eq_true] at hs
          cases e
          exact .inr (.inr ⟨p, qs, k1.dp q1, k2.dp q2, hs.1, hs.2, rfl⟩)
        · cases e
      · cases e
theorem room65 {A : Around} {k : Nat} (hr : Room k A) (h1 : 1 ≤ k) : A.units + 65 < cLine := by have := hr.un; omega
theorem in_i (σ : L2.St) (H : Hp) (Q : VK) (h : tD K cl W (c2 oIn f g) σ H Q) : tOp (fun x y H Q => rIn K false x y H Q ∨ rInD K x y H Q ∨ rInT K false x y H Q) (tW K cl W f) (tW K cl W g) σ H Q :=
  bin_ moW coR (fun E H v w x y z sb h1 h2 e Q k => by
    unfold oIn at e
    cases q : inD x y with
    | none => rw [q] at e; cases e
    | some r =>
      rw [q] at e; cases e
      rcases in_ sb.sub h1 h2 q with ⟨p, xs, e1, e2, e3, e4, rfl⟩ | ⟨d, ds, e1, e2, e3, e4, rfl⟩ | ⟨d, ds, e1, e2, e3, e4, rfl⟩
      · exact .inl ⟨p, xs, e1, e2, e3, e4, same_ sb (.bl _) k⟩
      · exact .inr (.inl ⟨d, ds, e1, e2, e3, e4, same_ sb (.bl _) k⟩)
      · exact .inr (.inr ⟨d, ds, e1, e2, e3, e4, same_ sb (.bl _) k⟩)) σ H Q h
theorem nin_i (σ : L2.St) (H : Hp) (Q : VK) (h : tD K cl W (c2 oNin f g) σ H Q) : tOp (fun x y H Q => rIn K true x y H Q ∨ rNotInD K x y H Q ∨ rInT K true x y H Q) (tW K cl W f) (tW K cl W g) σ H Q :=
  bin_ moW coR (fun E H v w x y z sb h1 h2 e Q k => by
    unfold oNin at e
    cases q : inD x y with
    | none => rw [q] at e; cases e
    | some r =>
      rw [q] at e; cases e
      rcases in_ sb.sub h1 h2 q with ⟨p, xs, e1, e2, e3, e4, rfl⟩ | ⟨d, ds, e1, e2, e3, e4, rfl⟩ | ⟨d, ds, e1, e2, e3, e4, rfl⟩
      · exact .inl ⟨p, xs, e1, e2, e3, e4, same_ sb (.bl _) k⟩
      · exact .inr (.inl ⟨d, ds, e1, e2, e3, e4, same_ sb (.bl _) k⟩)
      · exact .inr (.inr ⟨d, ds, e1, e2, e3, e4, same_ sb (.bl _) k⟩)) σ H Q h
theorem d_in (hu : X.A.units + 65 < cLine) (ha : PE X a (tW X.K cl W f)) (hb : PE X b (tW X.K cl W g)) (hm : behindInMarks .In b = false := by rfl) : PE X (.Compare a [.In] [b] pos) (tD X.K cl W (c2 oIn f g)) := PE.imp (pe_cmpR (op_in_seq.or ((op_inD hu).or (op_inT hu))) ha hb hm) in_i
theorem d_nin (hu : X.A.units + 65 < cLine) (ha : PE X a (tW X.K cl W f)) (hb : PE X b (tW X.K cl W g)) (hm : behindInMarks .NotIn b = false := by rfl) : PE X (.Compare a [.NotIn] [b] pos) (tD X.K cl W (c2 oNin f g)) := PE.imp (pe_cmpR (op_notIn_seq.or ((op_notInD hu).or (op_ninT hu))) ha hb hm) nin_i
theorem t_in (hu : X.A.units + 65 < cLine) (ha : PE X a (tW X.K cl W f)) (hb : PE X b (tW X.K cl W g)) (hm : behindInMarks .In b = false := by rfl) : PT X (.Compare a [.In] [b] pos) (tT X.K cl W (cT (c2 oIn f g))) := PT.imp (pt_cmpR (op_in_seq.or ((op_inD hu).or (op_inT hu))) ha hb hm) (tst_ in_i)
theorem t_nin (hu : X.A.units + 65 < cLine) (ha : PE X a (tW X.K cl W f)) (hb : PE X b (tW X.K cl W g)) (hm : behindInMarks .NotIn b = false := by rfl) : PT X (.Compare a [.NotIn] [b] pos) (tT X.K cl W (cT (c2 oNin f g))) := PT.imp (pt_cmpR (op_notIn_seq.or ((op_notInD hu).or (op_ninT hu))) ha hb hm) (tst_ nin_i)
/-! ### a, b = x, y -/
@[simp] def sPar (i j : Nat) (fa : Av) : Sv := fun ρ => rob (fa ρ) ρ fun ds => match ds with
  | [d, e] => .nx ((ρ.set i (.va d)).set j (.va e))
  | _ => .st
theorem s_par {i j : Nat} {n2 : Str} {px py pt : Pos} {kt k2 : Nat} {pt2 : Pos} (hc : X.calm = true) (hN : X.N.Nodup) (hi : X.N[i]? = some n) (hj : X.N[j]? = some n2) (hij : i ≠ j)
    (hx : X.env.scope.names.lookup n = some .local) (hy : X.env.scope.names.lookup n2 = some .local) (ha : PA X [a, b] (tA K cl W (fun E _ v d => Dn K cl E v d) fa))
    (hw : swappedStores [.Tuple [.Name n px, .Name n2 py] kt pt] (.Tuple [a, b] k2 pt2) X.env = pure (some [n, n2]))
    (hs : swapsWithSole [.Tuple [.Name n px, .Name n2 py] kt pt] (.Tuple [a, b] k2 pt2) pos.line X.env = pure false := by rfl) :
    PS X (.Assign [.Tuple [.Name n px, .Name n2 py] kt pt] (.Tuple [a, b] k2 pt2) pos) (tS K cl W (sPar i j fa)) :=
  PS.imp (ps_par hc hN hi hj hij hx hy ha hw hs) fun D σ H ⟨E0, H0, E, ρ, r, k⟩ => ⟨E0, H0, E, ρ, r, (rob_an r k).imp fun ds k vs E' H' g s => by
    split at k
    · rename_i d e
      have := DnA.of s
      cases this with
      | @cons v vs' _ _ h1 h2 =>
        cases h2 with
        | @cons v2 vs2 _ _ h2 h3 =>
          cases h3
          exact ⟨v, v2, rfl, k _ E' H' (((r.grow g).setV h1 i).setV h2 j) g.ee⟩
    · exact k.elim⟩
end
end Dl
/-! try: .. except C as e: return .. : several clauses, with and without a name, each of which returns a thing of its own. -/
namespace Dl
open PySem L2 PyProof.Rows
section
variable {X : Cx}
/-- the clauses, each with its class and with what it may hand back of an exception of a class -/
inductive HdR (X : Cx) : List ExceptHandler → List (Value × (Value → V → Prop)) → Prop
  | nil : HdR X [] []
  | plain {x : Str} {c : Value} {b : Stmt} {suite : List Stmt} {np ps : Pos} {hds : List ExceptHandler} {l : List (Value × (Value → V → Prop))} {R : Value → V → Prop} (hc : Names X x c)
      (hsu : ∀ (a : Addr) (oe : Obj) (cls : Value) (pn : List (Addr × Obj)) (v : V), Zc cls none oe → (∃ vs, oe.data = .fields vs) → R cls v → PSs (X.suite a ((a, oe) :: pn)) (b :: suite) (fun D _ H => D.rt v H)) (r : HdR X hds l) :
      HdR X (.ExceptHandler (some (.Name x np)) none (b :: suite) ps :: hds) ((c, R) :: l)
  | named {x n : Str} {i : Nat} {c : Value} {b : Stmt} {suite : List Stmt} {np ps : Pos} {hds : List ExceptHandler} {l : List (Value × (Value → V → Prop))} {R : Value → V → Prop} (hi : X.N[i]? = some n) (hl : X.env.kindOf n = some .local) (hc : Names X x c)
      (hsu : ∀ (a : Addr) (oe : Obj) (cls : Value) (pn : List (Addr × Obj)) (v : V), Zc cls none oe → (∃ vs, oe.data = .fields vs) → R cls v → PSs (X.suite a ((a, oe) :: pn)) (b :: suite) (fun D σ H => σ[i]? = some (some (.ref a)) ∧ D.rt v H)) (r : HdR X hds l) :
      HdR X (.ExceptHandler (some (.Name x np)) (some n) (b :: suite) ps :: hds) ((c, R) :: l)
def wRet (K : PySem.W.Frag) (Wout : L2.WX) (rt : VK) : List (Value × (Value → V → Prop)) → L2.WX
  | [] => Wout
  | (c, R) :: r => fun cls d σ H => ∃ b, PySem.W.exmOne K cls c = some b ∧ (b = true → d = none ∧ ∃ v, R cls v ∧ rt v H) ∧ (b = false → wRet K Wout rt r cls d σ H)
variable {body : List Stmt} {h₀ : ExceptHandler} {hds : List ExceptHandler} {l : List (Value × (Value → V → Prop))} {pos : Pos} {tb : L2.WX → TS} {Wout : L2.WX}
theorem ps_try_ret (hs : X.stack = X.env :: X.outer) (hf : X.env.frame = some X.env.locals) (hN : X.N.Nodup) (tk : Takes X Wout)
    (hb : ∀ (W : L2.WX) (pn : List (Addr × Obj)) (xe : Value → Shared → Prop), Takes (X.tr pn xe) W → PassesOwn (model X.prog X.w) X.A X.env xe → PSs (X.tr pn xe) body (tb W))
    (hh : HdR X (h₀ :: hds) l) : PS X (.Try body (h₀ :: hds) [] [] pos) (fun D σ H => tb (wRet X.K Wout D.rt l) D σ H) := by
  refine ⟨fun pins s σ H D I h => ?_⟩
  have good := I.ok
  have frames : X.A.frames = some (X.env :: X.outer) := by rw [good.frames, hs]
  refine wpAny_Try_except ?_
  have run := (hb (wRet X.K Wout D.rt l) (X.pn ++ pins)
    (fun e t1 => wpAny (model X.prog X.w) X.A (noteFrame e X.env)
      (fun _ t2 => wpAny (model X.prog X.w) X.A (setFlight e none)
        (fun _ t3 => wpAny (model X.prog X.w) X.A (handleBy e X.env (h₀ :: hds)) (SP X pins D) X.xe t3) X.xe t2) X.xe t1)
    (fun u t0 caught => by
      obtain ⟨a, B, sI, pins', σ', H', cls, d, rfl, J0, nb, up, sky, na, os, ag, w⟩ := caught
      have J : Inv X pins σ' H' sI := J0.ofTry good
      have sky2 : Sky B (X.env :: X.outer) a (Zc cls d) X.env.locals t0.heap := by
        rw [← hs]
        exact sky
      show wpAny (model X.prog X.w) X.A (noteFrame (.ref a) X.env) _ _ _
      refine Sky.land Zc.steady frames hf sky2 fun g3 f3 u3 => ?_
      have J3 : Inv X pins σ' H' { t0 with heap := g3 } := J.landed nb f3.1 (up.trans u3) os ag
      obtain ⟨o3, v3, ho3, hz3, hd3⟩ := f3.there
      have away : a ∉ frs (X.env :: X.outer) := fun hm => by
        obtain ⟨_, o', e', hnf⟩ := f3.2.2.1.mem hm
        rw [ho3] at e'
        cases e'
        exact hnf _ hd3
      have a1 : a ≠ X.env.locals := fun z => away (List.mem_filterMap.mpr ⟨X.env, List.mem_cons_self, by rw [hf, z]⟩)
      have a2 : a ∉ X.fs := fun hm => by
        obtain ⟨e, he, q⟩ := List.mem_filterMap.mp hm
        exact away (List.mem_filterMap.mpr ⟨e, List.mem_cons_of_mem _ he, q⟩)
      have S3 := J3.suite ho3 hd3 na a1 a2
      have go : ∀ {hs2 : List ExceptHandler} {l2 : List (Value × (Value → V → Prop))}, HdR X hs2 l2 → wRet X.K Wout D.rt l2 cls d σ' H' →
          wpAny (model X.prog X.w) X.A (handleBy (.ref a) X.env hs2) (SP X pins D) X.xe { t0 with heap := g3 } := by
        intro hs2 l2 hk
        induction hk with
        | nil =>
          intro w2
          refine wpAny_handleBy_nil ?_
          obtain ⟨_, _, _, oe, vs, T, oT, ts', he, hz, hd, h1, hr⟩ := id f3
          unfold PySem.passOn
          refine wpAny_bind (wpAny_field he hd h1 ?_)
          rw [if_neg (show ¬ ((Value.ref T == Value.none) = true) from by simp)]
          have out : wpAny (model X.prog X.w) X.A (setFlight (.ref a) X.env.frame) (fun _ t4 => wpAny (model X.prog X.w) X.A (throw (.ref a) : Sem Flow) (SP X pins D) X.xe t4) X.xe { t0 with heap := g3 } := by
            rw [hf]
            refine HandSPX.setFlight_upZ f3 fun g4 hh4 u4 => wpAny_throw (tk _ _ ?_)
            exact ⟨a, B, sI, pins, σ', H', cls, d, rfl, J, nb, (up.trans u3).trans u4, .inr (.inr (by rw [hs]; exact hh4)), na, os, ag, w2⟩
          first
            | exact wpAny_bind (wpAny_pure (wpAny_bind out))
            | exact wpAny_bind out
        | @plain x c b suite np ps hs3 l3 R hc hsu r ih =>
          intro w2
          obtain ⟨k, hk1, yes, no⟩ := w2
          refine wpAny_handleBy_cons (codeAny_handlers_test ?_) (by intro q; cases q)
          have look : PySem.W.Looks (model X.prog X.w) g3 (typeOf (.ref a)) cls := fun A Q E s k q => wpAny_typeOf_ref (k _ _ ho3) (by rw [hz3.1]; exact q)
          have mat := PySem.W.exm_one (M := model X.prog X.w) (J3.kIn) look hk1
          have ask : ∀ {Q : Value → Shared → Prop} {E : Value → Shared → Prop}, Q c { t0 with heap := g3 } → wpAny (model X.prog X.w) (X.A.mark (some (.ref a))) (eval (.Name x np) X.env) Q E { t0 with heap := g3 } := fun {Q E} q => by
            obtain ⟨hg, hdbg, hm | ⟨hm, hv, hnn⟩⟩ := hc
            · exact ld_glob (X := X.suite a ((a, o3) :: (X.pn ++ pins))) S3 hg hm q hdbg
            · exact ld_blt (X := X.suite a ((a, o3) :: (X.pn ++ pins))) S3 hg hm hv q hnn hdbg
          refine ask (mat.here ?_)
          cases k with
          | true =>
            obtain ⟨ed, v, hR, hrt⟩ := yes rfl
            subst ed
            refine codeAny_handlers_suite ?_
            refine HandSPX.lands_againZ f3 fun g4 f4 u4 => ?_
            have J4 : Inv X pins σ' H' { t0 with heap := g4 } := J.landed nb f4.1 ((up.trans u3).trans u4) os ag
            obtain ⟨o4, v4, ho4, hz4, hd4⟩ := f4.there
            have S4 := J4.suite ho4 hd4 na a1 a2
            refine wpAny_mono ((hsu a o4 cls (X.pn ++ pins) v hz4 ⟨_, hd4⟩ hR).run [] _ _ H' { nx := fun _ _ => False, rt := D.rt } S4 hrt) (fun f t6 hsp => ?_) (fun _ _ z => False.elim z)
            cases f with
            | ret u =>
              obtain ⟨v6, σ6, H6, S6, r6, q6⟩ := hsp
              exact ⟨_, _, _, S6.unsuite good, r6, q6⟩
            | next => obtain ⟨_, _, _, q6⟩ := hsp; exact q6.elim
            | brk => obtain ⟨_, _, _, q6⟩ := hsp; exact q6.elim
            | cont => obtain ⟨_, _, _, q6⟩ := hsp; exact q6.elim
          | false =>
            show wpAny _ X.A (handleBy (.ref a) X.env hs3) _ _ _
            exact ih (no rfl)
        | @named x n i c b suite np ps hs3 l3 R hi hl hc hsu r ih =>
          intro w2
          obtain ⟨k, hk1, yes, no⟩ := w2
          refine wpAny_handleBy_cons (codeAny_handlers_test ?_) (by intro q; cases q)
          have look : PySem.W.Looks (model X.prog X.w) g3 (typeOf (.ref a)) cls := fun A Q E s k q => wpAny_typeOf_ref (k _ _ ho3) (by rw [hz3.1]; exact q)
          have mat := PySem.W.exm_one (M := model X.prog X.w) (J3.kIn) look hk1
          have ask : ∀ {Q : Value → Shared → Prop} {E : Value → Shared → Prop}, Q c { t0 with heap := g3 } → wpAny (model X.prog X.w) (X.A.mark (some (.ref a))) (eval (.Name x np) X.env) Q E { t0 with heap := g3 } := fun {Q E} q => by
            obtain ⟨hg, hdbg, hm | ⟨hm, hv, hnn⟩⟩ := hc
            · exact ld_glob (X := X.suite a ((a, o3) :: (X.pn ++ pins))) S3 hg hm q hdbg
            · exact ld_blt (X := X.suite a ((a, o3) :: (X.pn ++ pins))) S3 hg hm hv q hnn hdbg
          refine ask (mat.here ?_)
          cases k with
          | true =>
            obtain ⟨ed, v, hR, hrt⟩ := yes rfl
            subst ed
            refine codeAny_handlers_suite_as ?_
            refine HandSPX.lands_againZ f3 fun g4 f4 u4 => ?_
            have J4 : Inv X pins σ' H' { t0 with heap := g4 } := J.landed nb f4.1 ((up.trans u3).trans u4) os ag
            obtain ⟨o4, v4, ho4, hz4, hd4⟩ := f4.there
            have S4 := J4.suite ho4 hd4 na a1 a2
            refine store_ok (X := X.suite a ((a, o4) :: (X.pn ++ pins))) (v := .ref a) S4 hN hi (.inl hl) rfl (fun t5 S5 => ?_) (.inr hl)
            have hlen : i < σ'.length := by
              rw [S4.len]
              exact (List.getElem?_eq_some_iff.mp hi).1
            refine wpAny_mono ((hsu a o4 cls (X.pn ++ pins) v hz4 ⟨_, hd4⟩ hR).run [] t5 _ H' { nx := fun _ _ => False, rt := D.rt } S5 ⟨List.getElem?_set_self hlen, hrt⟩) (fun f t6 hsp => ?_) (fun _ _ z => False.elim z)
            cases f with
            | ret u =>
              obtain ⟨v6, σ6, H6, S6, r6, q6⟩ := hsp
              exact gone_ok (S6.unsuite good) hN hi hl fun t7 J7 => ⟨_, _, _, J7, r6, q6⟩
            | next => obtain ⟨_, _, _, q6⟩ := hsp; exact q6.elim
            | brk => obtain ⟨_, _, _, q6⟩ := hsp; exact q6.elim
            | cont => obtain ⟨_, _, _, q6⟩ := hsp; exact q6.elim
          | false =>
            show wpAny _ X.A (handleBy (.ref a) X.env hs3) _ _ _
            exact ih (no rfl)
      exact go hh w) PassesOwn.looking).run [] s σ H D (I.toTry _) h
  refine wpAny_mono run (fun f t1 hsp => ?_) (fun e t1 he => he)
  cases f with
  | next =>
    obtain ⟨σ', H', J', q⟩ := hsp
    exact wpAny_execs_nil ⟨σ', H', J'.ofTry good, q⟩
  | brk =>
    obtain ⟨σ', H', J', q⟩ := hsp
    exact ⟨σ', H', J'.ofTry good, q⟩
  | cont =>
    obtain ⟨σ', H', J', q⟩ := hsp
    exact ⟨σ', H', J'.ofTry good, q⟩
  | ret u =>
    obtain ⟨v, σ', H', J', r, q⟩ := hsp
    exact ⟨v, σ', H', J'.ofTry good, r, q⟩
end
end Dl
namespace Dl
open PySem L2 PyProof.Rows
/-- the own classes: each under ShareError alone -/
def subX (n c : Str) : Bool := decide (n = c) || decide (c = "ShareError")
structure XPair (K : PySem.W.Frag) (cl : Str → Addr) (n c : Str) : Prop where
  m : PySem.W.exmOne K (.ref (cl n)) (.ref (cl c)) = some (subX n c)
  i : PySem.W.kitOne K (.ref (cl n)) (.ref (cl c)) = some (subX n c)
/-- the classes that are raised, that are asked for -/
def XTab (K : PySem.W.Frag) (cl : Str → Addr) (ns cs : List Str) : Prop := (∀ n ∈ ns, ExcC K (cl n)) ∧ ∀ n ∈ ns, ∀ c ∈ cs, XPair K cl n c
section
variable {K : PySem.W.Frag} {cl : Str → Addr} {X : Cx} {W : L2.WX} {ns cs : List Str} {g : Sv} {body : List Stmt} {h₀ : ExceptHandler} {hds : List ExceptHandler} {pos : Pos}
def dispX (ns cs : List Str) : List (Str × (Str → Str)) → Str → List Sl → Ro
  | [], n, ρ => .ex n ρ
  | (c, h) :: r, n, ρ => if n ∈ ns ∧ c ∈ cs then cond (subX n c) (.rt (.str (h n))) (dispX ns cs r n ρ) else .st
@[simp] def sTryR (ns cs : List Str) (g : Sv) (hs : List (Str × (Str → Str))) : Sv := fun ρ => match g ρ with
  | .ex n ρ' => dispX ns cs hs n ρ'
  | r => r
def RX (cl : Str → Addr) (ns : List Str) (h : Str → Str) : Value → V → Prop := fun c v => ∃ n, n ∈ ns ∧ c = .ref (cl n) ∧ v = .str (h n)
theorem disp_ {D : Ends} {E0 H0 E H : Hp} {σ : L2.St} {ρ : List Sl} {n : Str} (xt : XTab K cl ns cs) (r : Rl K cl E0 H0 E H σ ρ) : ∀ {hs : List (Str × (Str → Str))}, Ros K cl W D E0 H0 E (dispX ns cs hs n ρ) →
    wRet K W D.rt (hs.map fun p => (.ref (cl p.1), RX cl ns p.2)) (.ref (cl n)) none σ H
  | [], k => k σ E H r (Sub.refl _)
  | (c, h) :: hs, k => by
    unfold dispX at k
    split at k
    · rename_i hm
      have pr := xt.2 n hm.1 c hm.2
      refine ⟨_, pr.m, fun hb => ⟨rfl, .str (h n), ⟨n, hm.1, rfl, rfl⟩, ?_⟩, fun hb => ?_⟩
      · rw [hb] at k
        exact k _ E H r.gr (.str _)
      · rw [hb] at k
        exact disp_ xt r k
    · exact k.elim
theorem s_tryR {hs : List (Str × (Str → Str))} (xt : XTab X.K cl ns cs) (hst : X.stack = X.env :: X.outer) (hf : X.env.frame = some X.env.locals) (hN : X.N.Nodup) (tk : Takes X W)
    (hb : ∀ (W : L2.WX) (pn : List (Addr × Obj)) (xe : Value → Shared → Prop), Takes (X.tr pn xe) W → PassesOwn (model X.prog X.w) X.A X.env xe → PSs (X.tr pn xe) body (tS X.K cl W g))
    (hh : HdR X (h₀ :: hds) (hs.map fun p => (.ref (cl p.1), RX cl ns p.2))) : PS X (.Try body (h₀ :: hds) [] [] pos) (tS X.K cl W (sTryR ns cs g hs)) :=
  PS.imp (ps_try_ret hst hf hN tk hb hh) fun D σ H ⟨E0, H0, E, ρ, r, k⟩ => by
    refine ⟨E0, H0, E, ρ, r, ?_⟩
    unfold sTryR at k
    cases q : g ρ with
    | ex n ρ' =>
      rw [q] at k
      dsimp only at k
      intro σ' E' H' r' s
      exact disp_ xt r' (Ros.up k s)
    | st => rw [q] at k; exact k
    | nx _ => rw [q] at k; exact k
    | bk _ => rw [q] at k; exact k
    | ct _ => rw [q] at k; exact k
    | rt _ => rw [q] at k; exact k
/-! ### the clauses' suites -/
theorem hd_const {x : Str} {s : Str} {j : Nat} {np ps p p2 : Pos} {l : List (Value × (Value → V → Prop))} (gc : X.mg x = some (.ref (cl x))) (r : HdR X hds l) (hg : Gl X x := by rfl) (hd : (x == ("__debug__" : Str)) = false := by decide) :
    HdR X (.ExceptHandler (some (.Name x np)) none [.Return (some (.Constant (.str s) j p)) p2] ps :: hds) ((.ref (cl x), RX cl ns fun _ => s) :: l) :=
  .plain ⟨hg, hd, .inl gc⟩ (fun a oe cls pn v _ _ hR => ⟨fun pins s' σ H D I h => by
    obtain ⟨n, _, _, rfl⟩ := hR
    exact (pss_one (ps_ret pe_str)).run pins s' σ H D I h⟩) r
theorem isE_ {Y : Cx} {x n2 : Str} {i : Nat} {a D : Addr} {oe : Obj} {pn : List (Addr × Obj)} {p1 p2 p3 p4 : Pos} (C : ExcC X.K D) (hz : Zc (.ref D) none oe) (hf : ∃ vs, oe.data = .fields vs)
    (hgi : Gl X "isinstance") (hmi : X.mg "isinstance" = none) (hv : PE (X.suite a ((a, oe) :: pn)) (.Name n2 p2) (tVar i)) (hgx : Gl X x) (gc : X.mg x = some (.ref (cl x))) (hd : (x == ("__debug__" : Str)) = false)
    (he1 : starEach [.Name x p3] X.env = (false, eval (.Name x p3) X.env) :: starEach [] X.env) (he : starEach [.Name n2 p2, .Name x p3] X.env = (false, eval (.Name n2 p2) X.env) :: starEach [.Name x p3] X.env) (hpl : (backTo p4 (starEach [.Name x p3] X.env)).any (·.1) = false) :
    PE (X.suite a ((a, oe) :: pn)) (.Call (.Name "isinstance" p1) [.Name n2 p2, .Name x p3] [] p4) (tCB (rIsE X.K D a) (tCons (tVar i) (tCons (tC (.ref (cl x))) tNil))) :=
  pe_callB (call_isE C hz hf) hgi hmi (by decide +kernel) (pa_cons hv (pa_cons (pe_glob hgx gc rfl hd) pa_nil he1) he) (by decide) (by decide) he hpl
theorem hd_two {x n2 xa xb s1 s2 : Str} {i j1 j2 : Nat} {np ps p q1 q2 q3 q4 q5 q6 q7 q8 q9 qa qb qc qd : Pos} {l : List (Value × (Value → V → Prop))} (xt : XTab X.K cl ns cs) (ha : xa ∈ cs) (hb : xb ∈ cs) (gc : X.mg x = some (.ref (cl x))) (ga : X.mg xa = some (.ref (cl xa))) (gb : X.mg xb = some (.ref (cl xb)))
    (hmi : X.mg "isinstance" = none) (r : HdR X hds l) (hi : X.N[i]? = some n2) (hl : X.env.kindOf n2 = some .local) (hg : Gl X x := by rfl) (hd : (x == ("__debug__" : Str)) = false := by decide) (hgi : Gl X "isinstance" := by rfl) (hga : Gl X xa := by rfl) (hda : (xa == ("__debug__" : Str)) = false := by decide) (hgb : Gl X xb := by rfl) (hdb : (xb == ("__debug__" : Str)) = false := by decide)
    (hdn : (n2 == ("__debug__" : Str)) = false := by decide) (hcd : (n2 == ("__classdict__" : Str)) = false := by decide)
    (e1 : starEach [.Name xa q3] X.env = (false, eval (.Name xa q3) X.env) :: starEach [] X.env := by rfl) (e2 : starEach [.Name n2 q2, .Name xa q3] X.env = (false, eval (.Name n2 q2) X.env) :: starEach [.Name xa q3] X.env := by rfl) (e3 : (backTo q4 (starEach [.Name xa q3] X.env)).any (·.1) = false := by rfl)
    (f1 : starEach [.Name xb q7] X.env = (false, eval (.Name xb q7) X.env) :: starEach [] X.env := by rfl) (f2 : starEach [.Name n2 q6, .Name xb q7] X.env = (false, eval (.Name n2 q6) X.env) :: starEach [.Name xb q7] X.env := by rfl) (f3 : (backTo q8 (starEach [.Name xb q7] X.env)).any (·.1) = false := by rfl) :
    HdR X (.ExceptHandler (some (.Name x np)) (some n2) [.Return (some (.IfExp (.BoolOp .And [.Call (.Name "isinstance" q1) [.Name n2 q2, .Name xa q3] [] q4, .UnaryOp .Not (.Call (.Name "isinstance" q5) [.Name n2 q6, .Name xb q7] [] q8) q9] qa) (.Constant (.str s1) j1 qb) (.Constant (.str s2) j2 qc) qd)) p] ps :: hds)
      ((.ref (cl x), RX cl ns fun n => cond (subX n xa && !subX n xb) s1 s2) :: l) :=
  .named hi hl ⟨hg, hd, .inl gc⟩ (fun a oe cls pn v hz hf hR => ⟨fun pins s' σ H D I h => by
    obtain ⟨n, hn, rfl, rfl⟩ := hR
    obtain ⟨hσ, hrt⟩ := h
    have hrt : D.rt (.str (cond (subX n xa && !subX n xb) s1 s2)) H := hrt
    have C := xt.1 n hn
    have A1 := (xt.2 n hn xa ha).i
    have A2 := (xt.2 n hn xb hb).i
    refine (pss_one (ps_ret (pe_ifExp (PW.pt (pw_and (pt_val (isE_ (Y := X) C hz hf hgi hmi (pe_var hi (.inl hl) hdn hcd) hga ga hda e1 e2 e3) (fun _ => rfl)) (pw_and1 (pt_not (pt_val (isE_ (Y := X) C hz hf hgi hmi (pe_var hi (.inl hl) hdn hcd) hgb gb hdb f1 f2 f3) (fun _ => rfl)))))) pe_str pe_str))).run pins s' σ H D I ?_
    refine ⟨_, hσ, .ref (cl xa), .ref (cl xa), subX n xa, rfl, fun u hu => hu, A1, _, rfl, ?_⟩
    cases q : subX n xa with
    | false =>
      rw [q] at hrt
      exact iteF (iteF hrt)
    | true =>
      refine iteT ⟨_, hσ, .ref (cl xb), .ref (cl xb), subX n xb, rfl, fun u hu => hu, A2, _, rfl, ?_⟩
      rw [q] at hrt
      cases q2 : subX n xb with
      | false => rw [q2] at hrt; exact iteT hrt
      | true => rw [q2] at hrt; exact iteF hrt⟩) r
end
end Dl
namespace Dl
open PySem L2 PyProof.Rows
section
variable {K : PySem.W.Frag} {cl : Str → Addr} {X : Cx} {W : L2.WX} {R : Rel} {S : Rl4} {a b c e x tg iter elt : Expr} {es rest ifs : List Expr} {f g h : Ev} {t : Tv} {fa : Av} {pos p p2 p3 : Pos} {n : Str}
/-! ### one of two ways -/
theorem PI.or {t t' : TI} (h : PI X tg e t) (h' : PI X tg e t') : PI X tg e (fun σ H R => t σ H R ∨ t' σ H R) := ⟨fun pins s σ H Q I q => q.elim (fun q => h.run pins s σ H Q I q) fun q => h'.run pins s σ H Q I q⟩
theorem PE.or {t t' : TE} (h : PE X e t) (h' : PE X e t') : PE X e (fun σ H Q => t σ H Q ∨ t' σ H Q) := ⟨fun pins s σ H Q I q => q.elim (fun q => h.run pins s σ H Q I q) fun q => h'.run pins s σ H Q I q⟩
/-! ### a list or a tuple walked -/
@[simp] def cSeqA (f : Ev) : Av := fun ρ => (f ρ).bind fun d => match d with
  | .lst ds => .ok ds
  | .tup ds => .ok ds
  | _ => .st
theorem i_seq (h : PE X e (tD X.K cl W f)) : PI X tg e (tI X.K cl W (cSeqA f)) :=
  PI.imp (PI.or (i_list h) (i_tup h)) fun σ H R ⟨E0, H0, E, ρ, r, k⟩ => by
    unfold cSeqA at k
    cases q : f ρ with
    | st => rw [q] at k; exact k.elim
    | ex n => rw [q] at k; exact .inl ⟨E0, H0, E, ρ, r, by unfold cSeq; rw [q]; exact k⟩
    | ok d =>
      rw [q] at k
      cases d with
      | lst ds => exact .inl ⟨E0, H0, E, ρ, r, by unfold cSeq; rw [q]; exact k⟩
      | tup ds => exact .inr ⟨E0, H0, E, ρ, r, by unfold cSeqT; rw [q]; exact k⟩
      | _ => exact k.elim
/-! ### zip, enumerate -/
@[simp] def zipD : List Dt → List Dt → List Dt
  | x :: xs, y :: ys => .tup [x, y] :: zipD xs ys
  | _, _ => []
theorem zipD_len : ∀ xs ys : List Dt, (zipD xs ys).length = min xs.length ys.length
  | [], ys => by simp
  | x :: xs, [] => by simp
  | x :: xs, y :: ys => by simp [zipD_len xs ys]
theorem zipD_get : ∀ {xs ys : List Dt} {i : Nat} {d : Dt}, (zipD xs ys)[i]? = some d → ∃ x y, xs[i]? = some x ∧ ys[i]? = some y ∧ d = .tup [x, y]
  | [], ys, i, d, h => by simp at h
  | x :: xs, [], i, d, h => by simp at h
  | x :: xs, y :: ys, 0, d, h => by simp at h; exact ⟨x, y, rfl, rfl, h.symm⟩
  | x :: xs, y :: ys, i + 1, d, h => by
    obtain ⟨x', y', h1, h2, h3⟩ := zipD_get (i := i) (by simpa using h)
    exact ⟨x', y', by simpa using h1, by simpa using h2, h3⟩
@[simp] def zipO : List Dt → Rs (List Dt)
  | [.lst xs, .lst ys] => .ok (zipD xs ys)
  | [.tup xs, .tup ys] => .ok (zipD xs ys)
  | _ => .st
@[simp] def cZip (fa : Av) : Av := fun ρ => (fa ρ).bind zipO
theorem pair_new {E E1 H1 : Hp} {x y : V} {d1 d2 : Dt} {T : Addr} (s : Sub E E1) (s2 : Sb E1 H1) (h1 : Dn K cl E x d1) (h2 : Dn K cl E y d2) (n : H1 T = none) : ∃ E2, Gr E1 H1 E2 (upd H1 T (.tup [x, y])) ∧ Dn K cl E2 (.ref T) (.tup [d1, d2]) :=
  let ⟨g, d⟩ := new_tup s2.sub (.cons (h1.mono s) (.cons (h2.mono s) .nil)) n
  ⟨_, g, d⟩
theorem i_zip {kk : Nat} {tpos : Pos} {elts : List Expr} (hg : Gl X "zip") (hm : X.mg "zip" = none) (ha : PA X [a, b] (tA X.K cl W (fun E _ v d => Dn X.K cl E v d) fa))
    (hs : starEach [a, b] X.env = (false, eval a X.env) :: starEach [b] X.env := by rfl) (hpl : (backTo pos (starEach [b] X.env)).any (·.1) = false := by rfl) :
    PI X (.Tuple elts kk tpos) (.Call (.Name "zip" p) [a, b] [] pos) (tI X.K cl W (cZip fa)) :=
  PI.imp (RZ.pi_zipA hg hm ha hs hpl) fun σ H R ⟨E0, H0, E, ρ, r, k⟩ => ⟨E0, H0, E, ρ, r, (An.bind k).imp fun ds k vs E' H' g s => by
    have sd := DnA.of s
    unfold zipO at k
    split at k
    · rename_i xs ys
      cases sd with
      | cons h1 r1 =>
        cases r1 with
        | cons h2 r2 =>
          cases r2
          cases h1 with
          | lst p1 q1 =>
            cases h2 with
            | lst p2 q2 =>
              rename_i a1 v1 a2 v2
              have p1 : SqL X.K E' a1 v1 := SqL.of p1
              have p2 : SqL X.K E' a2 v2 := SqL.of p2
              refine ⟨a1, a2, v1, v2, rfl, .inl ⟨g.eh.sqL p1, g.eh.sqL p2, k _ E' H' g ⟨fun i E1 H1 s1 s2 hi => ?_, fun E1 H1 s1 s2 => ⟨v1, v2, s2.sqL (s1.sqL p1), s2.sqL (s1.sqL p2), ?_⟩, fun i E1 H1 z H2 d s1 s2 y hd => ?_⟩⟩⟩
              · rw [zipD_len] at hi
                obtain ⟨u, hu, _⟩ := q1.get (List.getElem?_eq_getElem (show i < xs.length by omega))
                obtain ⟨u2, hu2, _⟩ := q2.get (List.getElem?_eq_getElem (show i < ys.length by omega))
                exact ⟨v1, v2, u, u2, s2.sqL (s1.sqL p1), s2.sqL (s1.sqL p2), hu, hu2⟩
              · rw [zipD_len, q1.length, q2.length]; omega
              · obtain ⟨T, x, y, rfl, n, rfl, y1, y2⟩ := y
                obtain ⟨dx, dy, e1, e2, rfl⟩ := zipD_get hd
                obtain ⟨u, hu, hd1⟩ := q1.get e1
                obtain ⟨u2, hu2, hd2⟩ := q2.get e2
                have := y1 v1 (s2.sub.sqL (s1.sqL p1)); rw [this] at hu; cases hu
                have := y2 v2 (s2.sub.sqL (s1.sqL p2)); rw [this] at hu2; cases hu2
                exact pair_new s1 s2 hd1 hd2 n
    · rename_i xs ys
      cases sd with
      | cons h1 r1 =>
        cases r1 with
        | cons h2 r2 =>
          cases r2
          cases h1 with
          | tup p1 q1 =>
            cases h2 with
            | tup p2 q2 =>
              rename_i a1 v1 a2 v2
              have p1 : SqT X.K E' a1 v1 := SqT.of p1
              have p2 : SqT X.K E' a2 v2 := SqT.of p2
              refine ⟨a1, a2, v1, v2, rfl, .inr ⟨g.eh.sqT p1, g.eh.sqT p2, k _ E' H' g ⟨fun i E1 H1 s1 s2 hi => ?_, fun E1 H1 s1 s2 => ⟨v1, v2, s2.sqT (s1.sqT p1), s2.sqT (s1.sqT p2), ?_⟩, fun i E1 H1 z H2 d s1 s2 y hd => ?_⟩⟩⟩
              · rw [zipD_len] at hi
                obtain ⟨u, hu, _⟩ := q1.get (List.getElem?_eq_getElem (show i < xs.length by omega))
                obtain ⟨u2, hu2, _⟩ := q2.get (List.getElem?_eq_getElem (show i < ys.length by omega))
                exact ⟨v1, v2, u, u2, s2.sqT (s1.sqT p1), s2.sqT (s1.sqT p2), hu, hu2⟩
              · rw [zipD_len, q1.length, q2.length]; omega
              · obtain ⟨T, x, y, rfl, n, rfl, y1, y2⟩ := y
                obtain ⟨dx, dy, e1, e2, rfl⟩ := zipD_get hd
                obtain ⟨u, hu, hd1⟩ := q1.get e1
                obtain ⟨u2, hu2, hd2⟩ := q2.get e2
                have := y1 v1 (s2.sub.sqT (s1.sqT p1)); rw [this] at hu; cases hu
                have := y2 v2 (s2.sub.sqT (s1.sqT p2)); rw [this] at hu2; cases hu2
                exact pair_new s1 s2 hd1 hd2 n
    · exact k.elim⟩
@[simp] def enumD : Nat → List Dt → List Dt
  | _, [] => []
  | i, x :: xs => .tup [.int (i : Int), x] :: enumD (i + 1) xs
theorem enumD_len : ∀ (xs : List Dt) (i : Nat), (enumD i xs).length = xs.length
  | [], _ => rfl
  | x :: xs, i => by simp [enumD_len xs (i + 1)]
theorem enumD_get : ∀ {xs : List Dt} {j i : Nat} {d : Dt}, (enumD j xs)[i]? = some d → ∃ x, xs[i]? = some x ∧ d = .tup [.int ((j + i : Nat) : Int), x]
  | [], j, i, d, h => by simp at h
  | x :: xs, j, 0, d, h => by simp at h; exact ⟨x, rfl, h.symm⟩
  | x :: xs, j, i + 1, d, h => by
    obtain ⟨x', h1, h2⟩ := enumD_get (xs := xs) (j := j + 1) (i := i) (by simpa using h)
    exact ⟨x', by simpa using h1, by rw [h2, show j + 1 + i = j + (i + 1) by omega]⟩
@[simp] def enumO : List Dt → Rs (List Dt)
  | [.lst xs] => .ok (enumD 0 xs)
  | _ => .st
@[simp] def cEnum (fa : Av) : Av := fun ρ => (fa ρ).bind enumO
theorem i_enum {kk : Nat} {tpos : Pos} {elts : List Expr} (hg : Gl X "enumerate") (hm : X.mg "enumerate" = none) (ha : PA X [a] (tA X.K cl W (fun E _ v d => Dn X.K cl E v d) fa)) (hs : starEach [a] X.env = [(false, eval a X.env)] := by rfl) :
    PI X (.Tuple elts kk tpos) (.Call (.Name "enumerate" p) [a] [] pos) (tI X.K cl W (cEnum fa)) :=
  PI.imp (pi_enum hg hm ha hs) fun σ H R ⟨E0, H0, E, ρ, r, k⟩ => ⟨E0, H0, E, ρ, r, (An.bind k).imp fun ds k vs E' H' g s => by
    have sd := DnA.of s
    unfold enumO at k
    split at k
    · rename_i xs
      cases sd with
      | cons h1 r1 =>
        cases r1
        cases h1 with
        | lst p1 q1 =>
          rename_i a1 v1
          have p1 : SqL X.K E' a1 v1 := SqL.of p1
          refine ⟨a1, v1, rfl, g.eh.sqL p1, k _ E' H' g ⟨fun i E1 H1 s1 s2 hi => ?_, fun E1 H1 s1 s2 => ⟨v1, s2.sqL (s1.sqL p1), ?_⟩, fun i E1 H1 z H2 d s1 s2 y hd => ?_⟩⟩
          · rw [enumD_len] at hi
            obtain ⟨u, hu, _⟩ := q1.get (List.getElem?_eq_getElem hi)
            exact ⟨v1, u, s2.sqL (s1.sqL p1), hu⟩
          · rw [enumD_len, q1.length]; omega
          · obtain ⟨T, x, rfl, n, rfl, y1⟩ := y
            obtain ⟨dx, e1, rfl⟩ := enumD_get hd
            obtain ⟨u, hu, hd1⟩ := q1.get e1
            have := y1 v1 (s2.sub.sqL (s1.sqL p1)); rw [this] at hu; cases hu
            rw [Nat.zero_add]
            exact pair_new s1 s2 (.int _) hd1 n
    · exact k.elim⟩
/-! ### slices -/
abbrev Pv' := List Sl → Rs (Option Int)
variable (K cl) in
def tPO (W : L2.WX) (f : Pv') : TO := fun σ H Q => ∃ E0 H0 E ρ, Rl K cl E0 H0 E H σ ρ ∧ An cl W σ E H (f ρ) fun o => ∀ E' H', Gr E H E' H' → Q o H'
@[simp] def pNo : Pv' := fun _ => .ok none
@[simp] def pSome (f : Ev) : Pv' := fun ρ => (f ρ).bind fun d => match d with
  | .int i => .ok (some i)
  | _ => .st
theorem PO.imp {o : Option Expr} {t t' : TO} (h : PO X o t) (i : ∀ σ H Q, t' σ H Q → t σ H Q) : PO X o t' := ⟨fun pins s σ H Q I q => h.run pins s σ H Q I (i σ H Q q)⟩
theorem o_no : PO X none (tPO K cl W pNo) := PO.imp po_none fun σ H Q ⟨E0, H0, E, ρ, r, k⟩ => k E H (Gr.refl r.sb.sub)
theorem o_some (h : PE X e (tD K cl W f)) : PO X (some e) (tPO K cl W (pSome f)) := PO.imp (po_some h) fun σ H Q ⟨E0, H0, E, ρ, r, k⟩ => ⟨E0, H0, E, ρ, r, (An.bind k).imp fun d k v E' H' g s => by
  cases s <;> first | exact k.elim | exact ⟨_, rfl, k E' H' g⟩⟩
@[simp] def cutD (ds : List Dt) (lo hi : Option Int) : List Dt := (ds.drop (HT.sIx ds.length 0 lo)).take (HT.sIx ds.length ds.length hi - HT.sIx ds.length 0 lo)
theorem DnA.cut {E : Hp} {ds : List Dt} {vs : List V} (h : DnA K cl E vs ds) (lo hi : Option Int) : DnA K cl E (cutV vs lo hi) (cutD ds lo hi) := by
  unfold cutV cutD
  rw [h.length]
  exact (h.drop _).take _
@[simp] def oCut (lo hi : Option Int) : Dt → Rs Dt
  | .tup ds => .ok (.tup (cutD ds lo hi))
  | .lst ds => .ok (.lst (cutD ds lo hi))
  | _ => .st
@[simp] def cCut (f : Ev) (l u : Pv') : Ev := fun ρ => (f ρ).bind fun d => (l ρ).bind fun lo => (u ρ).bind fun hi => oCut lo hi d
theorem d_cut {lo hi : Option Expr} {l u : Pv'} (he : PE X e (tD X.K cl W f)) (hl : PO X lo (tPO X.K cl W l)) (hu : PO X hi (tPO X.K cl W u)) : PE X (.Subscript e (.Slice lo hi none p2) pos) (tD X.K cl W (cCut f l u)) :=
  PE.imp (pe_slice (sl_tupA.or sl_list) he hl hu) fun σ H Q ⟨E0, H0, E, ρ, r, k⟩ => ⟨E0, H0, E, ρ, r, (An.bind k).imp fun d k v E1 H1 g1 s1 =>
    ⟨E0, H0, E1, ρ, r.grow g1, (An.bind k).grow g1 fun o1 k E2 H2 g2 => ⟨E0, H0, E2, ρ, (r.grow g1).grow g2, (An.bind k).grow (g1.trans g2) fun o2 k E3 H3 g3 => by
      have g := (g1.trans g2).trans g3
      have s3 := (s1.mono g2.ee).mono g3.ee
      cases d with
      | tup ds =>
        have k : ∀ v E' H', Gr E H E' H' → Dn X.K cl E' v (.tup (cutD ds o1 o2)) → Q v H' := k
        cases s3 with
        | tup p1 r1 =>
          rename_i a1 vs
          refine .inl ⟨a1, vs, rfl, SqT.of (g.eh _ _ p1), fun w => ?_, fun _ p n => ?_⟩
          · have e1 : cutD ds o1 o2 = ds := by
              unfold cutD
              rw [r1.length] at w
              rw [w.1, w.2]; simp
            rw [e1] at k
            exact k _ E3 H3 g (.tup p1 r1)
          · obtain ⟨g4, d4⟩ := new_tup g.eh (r1.cut o1 o2) n
            exact k _ _ _ (g.trans g4) d4
      | lst ds =>
        have k : ∀ v E' H', Gr E H E' H' → Dn X.K cl E' v (.lst (cutD ds o1 o2)) → Q v H' := k
        cases s3 with
        | lst p1 r1 =>
          rename_i a1 vs
          refine .inr ⟨a1, vs, rfl, SqL.of (g.eh _ _ p1), fun p n => ?_⟩
          obtain ⟨g4, d4⟩ := new_lstD g.eh (r1.cut o1 o2) n
          exact k _ _ _ (g.trans g4) d4
      | _ => exact k.elim⟩⟩⟩
/-- xs[::-1] of a list -/
@[simp] def oRev : Dt → Option Dt
  | .lst ds => some (.lst ds.reverse)
  | _ => none
theorem DnA.reverse {E : Hp} : ∀ {ds : List Dt} {vs : List V}, DnA K cl E vs ds → DnA K cl E vs.reverse ds.reverse
  | [], _, h => by cases h; exact .nil
  | d :: ds, _, h => by
    cases h with
    | cons h r =>
      rw [List.reverse_cons, List.reverse_cons]
      exact (DnA.reverse r).append (.one h)
theorem d_rev {k : Nat} {p4 : Pos} (he : PE X e (tD X.K cl W f)) : PE X (.Subscript e (.Slice none none (some (.UnaryOp .USub (.Constant (.int 1) k p) p2)) p3) pos) (tD X.K cl W (c1 oRev f)) :=
  PE.imp (pe_revL he) fun σ H Q ⟨E0, H0, E, ρ, r, k⟩ => ⟨E0, H0, E, ρ, r, (An.bind k).imp fun d k v E' H' g s => by
    obtain ⟨z, hz, k⟩ := An.ofO k
    unfold oRev at hz
    split at hz
    · cases hz
      cases s with
      | lst p1 r1 =>
        refine ⟨_, _, rfl, SqL.of (g.eh _ _ p1), fun p n => ?_⟩
        obtain ⟨g4, d4⟩ := new_lstD g.eh r1.reverse n
        exact k _ _ _ (g.trans g4) d4
    · cases hz⟩
/-! ### min, max, sum -/
@[simp] def oMax2 : List Dt → Option Dt
  | [.int i, .int j] => some (.int (if j > i then j else i))
  | _ => none
@[simp] def oMin2 : List Dt → Option Dt
  | [.int i, .int j] => some (.int (if j < i then j else i))
  | _ => none
theorem d_max2 (hc : X.calm = true) (hg : Gl X "max") (hm : X.mg "max" = none) (ha : PA X (e :: es) (tA X.K cl W (fun E _ v d => Dn X.K cl E v d) fa))
    (he : starEach (e :: es) X.env = (false, eval e X.env) :: starEach es X.env := by rfl) (hpl : (backTo pos (starEach es X.env)).any (·.1) = false := by rfl) :
    PE X (.Call (.Name "max" p) (e :: es) [] pos) (tD X.K cl W (cB1 oMax2 fa)) :=
  PE.imp (pe_callB (call_max2 hc) hg hm boot_max ha (by decide) (by decide) he hpl) (cb_ coR fun E H vs xs z sb h e Q k => by
    unfold oMax2 at e; split at e
    · cases e
      cases DnA.of h with
      | cons h1 r1 =>
        cases r1 with
        | cons h2 r2 =>
          cases r2; cases h1; cases h2
          exact ⟨_, _, rfl, same_ sb (.int _) k⟩
    · cases e)
theorem d_min2 (hc : X.calm = true) (hg : Gl X "min") (hm : X.mg "min" = none) (ha : PA X (e :: es) (tA X.K cl W (fun E _ v d => Dn X.K cl E v d) fa))
    (he : starEach (e :: es) X.env = (false, eval e X.env) :: starEach es X.env := by rfl) (hpl : (backTo pos (starEach es X.env)).any (·.1) = false := by rfl) :
    PE X (.Call (.Name "min" p) (e :: es) [] pos) (tD X.K cl W (cB1 oMin2 fa)) :=
  PE.imp (pe_callB (call_min2 hc) hg hm boot_min ha (by decide) (by decide) he hpl) (cb_ coR fun E H vs xs z sb h e Q k => by
    unfold oMin2 at e; split at e
    · cases e
      cases DnA.of h with
      | cons h1 r1 =>
        cases r1 with
        | cons h2 r2 =>
          cases r2; cases h1; cases h2
          exact ⟨_, _, rfl, same_ sb (.int _) k⟩
    · cases e)
@[simp] def oSum : List Dt → Option Dt
  | [.lst ds] => (intsOf ds).map fun ns => .int ns.sum
  | _ => none
theorem d_sum (hc : X.calm = true) (hg : Gl X "sum") (hm : X.mg "sum" = none) (ha : PA X (e :: es) (tA X.K cl W (Wk X.K cl) fa))
    (he : starEach (e :: es) X.env = (false, eval e X.env) :: starEach es X.env := by rfl) (hpl : (backTo pos (starEach es X.env)).any (·.1) = false := by rfl) :
    PE X (.Call (.Name "sum" p) (e :: es) [] pos) (tD X.K cl W (cB1 oSum fa)) :=
  PE.imp (pe_callB (cr_sum hc) hg hm boot_sum ha (by decide) (by decide) he hpl) (cb_ coR fun E H vs xs z sb h e Q k => by
    unfold oSum at e; split at e
    · rename_i ds
      cases q : intsOf ds with
      | none => rw [q] at e; cases e
      | some ns =>
        rw [q] at e; cases e
        have := intsOf_eq q; subst this
        cases h with
        | cons h1 h2 =>
          cases h2
          obtain ⟨a, vs, rfl, hs, hr⟩ := h1.items sb.sub
          have := hr.ints; subst this
          exact ⟨a, ns, rfl, hs, same_ sb (.int _) k⟩
    · cases e)
/-- the least, the greatest of ints -/
def minL : Int → List Int → Int
  | m, [] => m
  | m, x :: xs => minL (if x < m then x else m) xs
def maxL : Int → List Int → Int
  | m, [] => m
  | m, x :: xs => maxL (if x > m then x else m) xs
theorem minL_le : ∀ (xs : List Int) (m : Int), minL m xs ≤ m ∧ ∀ y ∈ xs, minL m xs ≤ y
  | [], m => ⟨Int.le_refl _, fun y h => nomatch h⟩
  | x :: xs, m => by
    obtain ⟨h1, h2⟩ := minL_le xs (if x < m then x else m)
    unfold minL
    refine ⟨?_, fun y hy => ?_⟩
    · split at h1 <;> rename_i q <;> simp only [q, if_true, if_false] <;> omega
    · rcases List.mem_cons.mp hy with rfl | hy
      · split at h1 <;> rename_i q <;> simp only [q, if_true, if_false] <;> omega
      · exact h2 y hy
theorem minL_mem : ∀ (xs : List Int) (m : Int), minL m xs = m ∨ minL m xs ∈ xs
  | [], m => .inl rfl
  | x :: xs, m => by
    unfold minL
    rcases minL_mem xs (if x < m then x else m) with h | h
    · by_cases q : x < m
      · rw [if_pos q] at h ⊢; exact .inr (by rw [h]; exact List.mem_cons_self)
      · rw [if_neg q] at h ⊢; exact .inl h
    · exact .inr (List.mem_cons_of_mem _ h)
theorem maxL_ge : ∀ (xs : List Int) (m : Int), m ≤ maxL m xs ∧ ∀ y ∈ xs, y ≤ maxL m xs
  | [], m => ⟨Int.le_refl _, fun y h => nomatch h⟩
  | x :: xs, m => by
    obtain ⟨h1, h2⟩ := maxL_ge xs (if x > m then x else m)
    unfold maxL
    refine ⟨?_, fun y hy => ?_⟩
    · split at h1 <;> rename_i q <;> simp only [q, if_true, if_false] <;> omega
    · rcases List.mem_cons.mp hy with rfl | hy
      · split at h1 <;> rename_i q <;> simp only [q, if_true, if_false] <;> omega
      · exact h2 y hy
theorem maxL_mem : ∀ (xs : List Int) (m : Int), maxL m xs = m ∨ maxL m xs ∈ xs
  | [], m => .inl rfl
  | x :: xs, m => by
    unfold maxL
    rcases maxL_mem xs (if x > m then x else m) with h | h
    · by_cases q : x > m
      · rw [if_pos q] at h ⊢; exact .inr (by rw [h]; exact List.mem_cons_self)
      · rw [if_neg q] at h ⊢; exact .inl h
    · exact .inr (List.mem_cons_of_mem _ h)
@[simp] def minO : List Int → Option Dt
  | [] => none
  | n :: ns => some (.int (minL n ns))
@[simp] def maxO : List Int → Option Dt
  | [] => none
  | n :: ns => some (.int (maxL n ns))
@[simp] def oMin1 : List Dt → Option Dt
  | [.lst ds] => (intsOf ds).bind minO
  | _ => none
@[simp] def oMax1 : List Dt → Option Dt
  | [.lst ds] => (intsOf ds).bind maxO
  | _ => none
theorem d_min1 (hc : X.calm = true) (hg : Gl X "min") (hm : X.mg "min" = none) (ha : PA X (e :: es) (tA X.K cl W (Wk X.K cl) fa))
    (he : starEach (e :: es) X.env = (false, eval e X.env) :: starEach es X.env := by rfl) (hpl : (backTo pos (starEach es X.env)).any (·.1) = false := by rfl) :
    PE X (.Call (.Name "min" p) (e :: es) [] pos) (tD X.K cl W (cB1 oMin1 fa)) :=
  PE.imp (pe_callB (cr_min hc) hg hm boot_min ha (by decide) (by decide) he hpl) (cb_ coR fun E H vs xs z sb h e Q k => by
    unfold oMin1 at e; split at e
    · rename_i ds
      cases q : intsOf ds with
      | none => rw [q] at e; cases e
      | some ns =>
        rw [q] at e
        have := intsOf_eq q; subst this
        cases ns with
        | nil => cases e
        | cons n ns =>
          have e : some (Dt.int (minL n ns)) = some z := e
          cases e
          cases h with
          | cons h1 h2 =>
            cases h2
            obtain ⟨a, vs, rfl, hs, hr⟩ := h1.items sb.sub
            have := hr.ints; subst this
            refine ⟨a, n :: ns, rfl, hs, by simp, fun m hm hle => ?_⟩
            have : m = minL n ns := by
              obtain ⟨h1, h2⟩ := minL_le ns n
              have q1 : minL n ns ≤ m := by
                rcases List.mem_cons.mp hm with rfl | hm
                · exact h1
                · exact h2 m hm
              have q2 : m ≤ minL n ns := by
                rcases minL_mem ns n with e | e
                · rw [e]; exact hle _ List.mem_cons_self
                · exact hle _ (List.mem_cons_of_mem _ e)
              omega
            rw [this]
            exact same_ sb (.int _) k
    · cases e)
theorem d_max1 (hc : X.calm = true) (hg : Gl X "max") (hm : X.mg "max" = none) (ha : PA X (e :: es) (tA X.K cl W (Wk X.K cl) fa))
    (he : starEach (e :: es) X.env = (false, eval e X.env) :: starEach es X.env := by rfl) (hpl : (backTo pos (starEach es X.env)).any (·.1) = false := by rfl) :
    PE X (.Call (.Name "max" p) (e :: es) [] pos) (tD X.K cl W (cB1 oMax1 fa)) :=
  PE.imp (pe_callB (cr_max hc) hg hm boot_max ha (by decide) (by decide) he hpl) (cb_ coR fun E H vs xs z sb h e Q k => by
    unfold oMax1 at e; split at e
    · rename_i ds
      cases q : intsOf ds with
      | none => rw [q] at e; cases e
      | some ns =>
        rw [q] at e
        have := intsOf_eq q; subst this
        cases ns with
        | nil => cases e
        | cons n ns =>
          have e : some (Dt.int (maxL n ns)) = some z := e
          cases e
          cases h with
          | cons h1 h2 =>
            cases h2
            obtain ⟨a, vs, rfl, hs, hr⟩ := h1.items sb.sub
            have := hr.ints; subst this
            refine ⟨a, n :: ns, rfl, hs, by simp, fun m hm hle => ?_⟩
            have : m = maxL n ns := by
              obtain ⟨h1, h2⟩ := maxL_ge ns n
              have q1 : m ≤ maxL n ns := by
                rcases List.mem_cons.mp hm with rfl | hm
                · exact h1
                · exact h2 m hm
              have q2 : maxL n ns ≤ m := by
                rcases maxL_mem ns n with e | e
                · rw [e]; exact hle _ List.mem_cons_self
                · exact hle _ (List.mem_cons_of_mem _ e)
              omega
            rw [this]
            exact same_ sb (.int _) k
    · cases e)
/-! ### tuple(x), list(x) -/
@[simp] def oTup : List Dt → Option Dt
  | [.lst ds] => some (.tup ds)
  | [.tup ds] => some (.tup ds)
  | _ => none
@[simp] def oLst : List Dt → Option Dt
  | [.lst ds] => some (.lst ds)
  | [.tup ds] => some (.lst ds)
  | _ => none
theorem d_tupOf (hg : Gl X "tuple") (hm : X.mg "tuple" = none) (ha : PA X (e :: es) (tA X.K cl W (fun E _ v d => Dn X.K cl E v d) fa))
    (he : starEach (e :: es) X.env = (false, eval e X.env) :: starEach es X.env := by rfl) (hpl : (backTo pos (starEach es X.env)).any (·.1) = false := by rfl) :
    PE X (.Call (.Name "tuple" p) (e :: es) [] pos) (tD X.K cl W (cB1 oTup fa)) :=
  PE.imp (pe_callTy call_tuple_of hg hm Pv.boot_tuple ha (by decide) (by decide) he hpl) (cb_ coR fun E H vs xs z sb h e Q k => by
    unfold oTup at e; split at e
    · cases e
      cases DnA.of h with
      | cons h1 r1 =>
        cases r1
        cases h1 with
        | lst p1 q1 =>
          refine ⟨_, _, rfl, .inl ⟨SqL.of (sb.sub _ _ p1), fun l n => ?_⟩⟩
          obtain ⟨g4, d4⟩ := new_tup sb.sub q1 n
          exact k _ _ _ g4 d4
    · cases e
      cases DnA.of h with
      | cons h1 r1 =>
        cases r1
        cases h1 with
        | tup p1 q1 => exact ⟨_, _, rfl, .inr ⟨SqT.of (sb.sub _ _ p1), same_ sb (.tup p1 q1) k⟩⟩
    · cases e)
theorem d_lstOf (hg : Gl X "list") (hm : X.mg "list" = none) (ha : PA X (e :: es) (tA X.K cl W (fun E _ v d => Dn X.K cl E v d) fa))
    (he : starEach (e :: es) X.env = (false, eval e X.env) :: starEach es X.env := by rfl) (hpl : (backTo pos (starEach es X.env)).any (·.1) = false := by rfl) :
    PE X (.Call (.Name "list" p) (e :: es) [] pos) (tN X.K cl W (cB1 oLst fa)) :=
  PE.imp (pe_callTy call_list_of hg hm Pv.boot_list ha (by decide) (by decide) he hpl) (cb_ coN fun E H vs xs z sb h e Q k => by
    unfold oLst at e; split at e
    · cases e
      cases DnA.of h with
      | cons h1 r1 =>
        cases r1
        cases h1 with
        | lst p1 q1 =>
          refine ⟨_, _, rfl, .inl (SqL.of (sb.sub _ _ p1)), fun l n => ?_⟩
          obtain ⟨g4, d4⟩ := new_lst sb.sub q1 n
          exact k _ _ _ g4 d4
    · cases e
      cases DnA.of h with
      | cons h1 r1 =>
        cases r1
        cases h1 with
        | tup p1 q1 =>
          refine ⟨_, _, rfl, .inr (SqT.of (sb.sub _ _ p1)), fun l n => ?_⟩
          obtain ⟨g4, d4⟩ := new_lst sb.sub q1 n
          exact k _ _ _ g4 d4
    · cases e)
theorem rgV_dt {E : Hp} (n : Int) : DnA K cl E (rgV 0 n) (rngD 0 n.toNat) := by
  unfold rgV rngD
  rw [Int.sub_zero]
  have : ∀ l : List Nat, DnA K cl E (l.map fun i : Nat => V.int (0 + (i : Int))) (l.map fun i : Nat => Dt.int (0 + (i : Int))) := fun l => by
    induction l with
    | nil => exact .nil
    | cons i l ih => exact .cons (.int _) ih
  exact this _
@[simp] def oRng : Dt → Option (List Dt)
  | .int n => if decide (-(2 ^ 62) ≤ n) && decide (n ≤ 16000000) then some (rngD 0 n.toNat) else none
  | _ => none
@[simp] def cTupRg (f : Ev) : Ev := c1 (fun d => (oRng d).map .tup) f
@[simp] def cLstRg (f : Ev) : Ev := c1 (fun d => (oRng d).map .lst) f
theorem rg_ok {n : Int} (h1 : -(2 ^ 62) ≤ n) (h2 : n ≤ 16000000) : RgOk 0 n := ⟨by omega, by omega, h1, by omega, by omega⟩
theorem d_tupRg {p4 pos2 : Pos} (hc : X.calm = true) (hg : Gl X "tuple") (hm : X.mg "tuple" = none) (hg2 : Gl X "range") (hm2 : X.mg "range" = none) (he : PE X e (tD X.K cl W f)) (na : starEach [e] X.env = (false, eval e X.env) :: starEach [] X.env := by rfl)
    (na2 : starEach [.Call (.Name "range" p2) [e] [] pos2] X.env = (false, eval (.Call (.Name "range" p2) [e] [] pos2) X.env) :: starEach [] X.env := by rfl) : PE X (.Call (.Name "tuple" p) [.Call (.Name "range" p2) [e] [] pos2] [] pos) (tD X.K cl W (cTupRg f)) :=
  PE.imp (pe_tupRg hc hg hm (prg_1 hg2 hm2 he na) na2) fun σ H Q ⟨E0, H0, E, ρ, r, k⟩ => ⟨E0, H0, E, ρ, r, (An.bind k).imp fun d k v E' H' g s => by
    obtain ⟨z, hz, k⟩ := An.ofO k
    cases d with
    | int n =>
      have hz : (if decide (-(2 ^ 62) ≤ n) && decide (n ≤ 16000000) then some (rngD 0 n.toNat) else none).map Dt.tup = some z := hz
      split at hz
      · rename_i q
        rw [Bool.and_eq_true] at q
        cases hz; cases s
        refine ⟨n, rfl, rg_ok (of_decide_eq_true q.1) (of_decide_eq_true q.2), fun q n' => ?_⟩
        obtain ⟨g4, d4⟩ := new_tup g.eh (rgV_dt n) n'
        exact k _ _ _ (g.trans g4) d4
      · cases hz
    | _ => cases hz⟩
theorem d_lstRg {p4 pos2 : Pos} (hc : X.calm = true) (hg : Gl X "list") (hm : X.mg "list" = none) (hg2 : Gl X "range") (hm2 : X.mg "range" = none) (he : PE X e (tD X.K cl W f)) (na : starEach [e] X.env = (false, eval e X.env) :: starEach [] X.env := by rfl)
    (na2 : starEach [.Call (.Name "range" p2) [e] [] pos2] X.env = (false, eval (.Call (.Name "range" p2) [e] [] pos2) X.env) :: starEach [] X.env := by rfl) : PE X (.Call (.Name "list" p) [.Call (.Name "range" p2) [e] [] pos2] [] pos) (tN X.K cl W (cLstRg f)) :=
  PE.imp (pe_listRg hc hg hm (prg_1 hg2 hm2 he na) na2) fun σ H Q ⟨E0, H0, E, ρ, r, k⟩ => ⟨E0, H0, E, ρ, r, (An.bind k).imp fun d k v E' H' g s => by
    obtain ⟨z, hz, k⟩ := An.ofO k
    cases d with
    | int n =>
      have hz : (if decide (-(2 ^ 62) ≤ n) && decide (n ≤ 16000000) then some (rngD 0 n.toNat) else none).map Dt.lst = some z := hz
      split at hz
      · rename_i q
        rw [Bool.and_eq_true] at q
        cases hz; cases s
        refine ⟨n, rfl, rg_ok (of_decide_eq_true q.1) (of_decide_eq_true q.2), fun q n' => ?_⟩
        obtain ⟨g4, w4⟩ := new_lst g.eh (rgV_dt n) n'
        exact k _ _ _ (g.trans g4) (coN _ _ _ _ _ _ _ _ g w4)
      · cases hz
    | _ => cases hz⟩
/-! ### new lists by + and * -/
@[simp] def oCat : Dt → Dt → Option Dt
  | .lst xs, .lst ys => if xs.length + ys.length ≤ lim then some (.lst (xs ++ ys)) else none
  | _, _ => none
@[simp] def oRep : Dt → Dt → Option Dt
  | .lst xs, .int k => if (decide (-(2 ^ 63) ≤ k) && decide (k < 2 ^ 63)) && decide (xs.length * k.toNat ≤ lim) then some (.lst (List.replicate k.toNat xs).flatten) else none
  | _, _ => none
theorem Wk.itemsS {E H : Hp} {v : V} {ds : List Dt} (h : Wk K cl E H v (.lst ds)) (s : Sub E H) : ∃ a vs, v = .ref a ∧ H a = some (.lst vs) ∧ DnA K cl E vs ds := by
  rcases h with h | ⟨a, rfl, _, vs, h1, h2⟩
  · cases h with
    | lst hs hr => exact ⟨_, _, rfl, s _ _ hs, hr⟩
  · exact ⟨a, vs, rfl, h1, h2⟩
theorem n_cat (ha : PE X a (tW X.K cl W f)) (hb : PE X b (tW X.K cl W g)) : PE X (.BinOp a .Add b pos) (tN X.K cl W (c2 oCat f g)) :=
  PE.imp (pe_op op_cat ha hb) (bin_ moW coN fun E H v w x y z sb h1 h2 e Q k => by
    unfold oCat at e; split at e
    · split at e
      · rename_i xs ys hl
        cases e
        obtain ⟨a1, v1, rfl, p1, r1⟩ := h1.itemsS sb.sub
        obtain ⟨a2, v2, rfl, p2, r2⟩ := h2.itemsS sb.sub
        have hz := lim_le hl
        rw [← r1.length, ← r2.length] at hz
        refine ⟨_, _, _, _, rfl, rfl, p1, p2, hz, fun p n => ?_⟩
        obtain ⟨g2, d2⟩ := new_lst sb.sub (r1.append r2) n
        exact k _ _ _ g2 d2
      · cases e
    · cases e)
theorem n_rep (ha : PE X a (tW X.K cl W f)) (hb : PE X b (tD X.K cl W g)) : PE X (.BinOp a .Mult b pos) (tN X.K cl W (c2 oRep f g)) :=
  PE.imp (pe_op op_rep ha hb) (bin_ moW coN fun E H v w x y z sb h1 h2 e Q k => by
    unfold oRep at e; split at e
    · split at e
      · rename_i hc
        rw [Bool.and_eq_true, Bool.and_eq_true] at hc
        cases e; cases h2
        obtain ⟨a1, v1, rfl, p1, r1⟩ := h1.itemsS sb.sub
        refine ⟨_, _, _, rfl, rfl, p1, of_decide_eq_true hc.1.1, of_decide_eq_true hc.1.2, by rw [r1.length]; exact lim_le (of_decide_eq_true hc.2), fun p n => ?_⟩
        obtain ⟨g2, d2⟩ := new_lst sb.sub (r1.flat _) n
        exact k _ _ _ g2 d2
      · cases e
    · cases e)
end
end Dl
namespace Dl
open PySem L2 PySem.Spec PyProof.Rows
section
variable {X : Cx} {pins : List (Addr × Obj)} {σ : L2.St} {H : Hp} {s : Shared}
/-- a store into a dict with tuples for keys, by the display and by the comprehension -/
theorem dictSetT {A : Around} {EE : Value → Shared → Prop} {D b : Addr} {kvs : List (List Key × V)} {k : List Key} {v : V} {r : Value} {Q : Unit → Shared → Prop} (hu : A.units + 1 < cLine) (I : Inv X pins σ H s) (hD : H D = some (.dT kvs))
    (hz : kvs.length < sizeLine) (hb : H b = some (.tup (k.map kV))) (rv : RelV v r) (h : ∀ s', Inv X pins σ (upd H D (.dT (putK kvs k v))) s' → Q () s') : wpAny (model X.prog X.w) A (dictSet D (.ref b) r) Q EE s := by
  obtain ⟨z, nd, xs, rel, dd⟩ := dt_of I.hok hD
  have hx : xs.length ≤ sizeLine := by rw [← Paired.length rel]; exact z
  have hl : (putK kvs k v).length ≤ sizeLine := Nat.le_trans (length_putK kvs k v) hz
  refine wpAny_dictSet_heap (knd := tupleKind (mixKind X.prog X.w)) (hsz := hx) (Nat.lt_of_succ_lt hu) (key_of I.hok hb) dd fun g dg sg => h _ ?_
  obtain ⟨ob, es, ep, h1, h2, h3, h4, _, h5⟩ := dg
  refine d_write I (by rw [hD]; trivial) sg ⟨ob, h1⟩ ⟨hl, nd, _, (rel.put k hb rv).keeps fun c ys ec => ?_, ob, es, ep, h1, h2, h3, h4, h5⟩
  rw [upd_ne (ne_of ec hD fun z => nomatch z)]
  exact ec
/-- {k: v}, k a tuple -/
def tDis1 (tky tvl : TE) : TE := fun σ H Q => ∀ D, H D = none → tky σ (upd H D (.dT [])) fun y H1 => tvl σ H1 fun z H2 => ∃ k b, H2 D = some (.dT []) ∧ y = .ref b ∧ H2 b = some (.tup (k.map kV)) ∧ Q (.ref D) (upd H2 D (.dT [(k, z)]))
theorem pe_dis1 {ke ve : Expr} {pos : Pos} {tky tvl : TE} (hu : X.A.units + 1 < cLine) (hk : PE X ke tky) (hv : PE X ve tvl) : PE X (.Dict [some ke] [ve] pos) (tDis1 tky tvl) := ⟨fun pins s σ H Q I q => by
  have n0 := I.hok.fresh (Nat.le_refl s.heap.objs.size)
  have I1 := I.laid (a := s.heap.objs.size) (o := .dT []) (h' := s.heap.push { cls := .type "dict", data := .dict #[] }) (t' := s.toks) (fun _ _ z => Heap.get?_push_of_some _ z) (Nat.le_refl _) (dt_empty s.heap I.big)
  have two : (pairTrees [some ke] [ve] X.env pos).length = 1 := rfl
  rw [arm_eval_Dict, zip_pairTrees [some ke] [ve] X.env pos rfl rfl, dictDisplay_pairs (pairTrees [some ke] [ve] X.env pos) (fun z => by rw [z] at two; cases two) (by rw [two]; decide)]
  refine wpAny_bind (wpAny_standAt (wpAny_bind (wpAny_subDictH (knd := tupleKind (mixKind X.prog X.w)) (Q := fun d s' => wpAny (model X.prog X.w) X.A (pure (Value.ref d)) (EP X pins σ Q) X.xe s') (Nat.lt_of_succ_lt hu) (by rw [two]; decide) ?_)))
  refine pairTrees_cons_walk (thn (hk.run pins _ σ _ _ I1 (q _ n0)) fun u1 s1 ⟨y, H1, J1, r1, q1⟩ => thn (hv.run pins s1 σ H1 _ J1 q1) fun u2 s2 ⟨z, H2, J2, r2, q2⟩ => pairTrees_nil_walk ?_)
  obtain ⟨k, b, hD, ey, hb, q3⟩ := q2
  subst ey
  have eu : u1 = Value.ref b := r1
  subst eu
  obtain ⟨_, nd, xs, rel, dd⟩ := dt_of J2.hok hD
  cases rel
  refine ⟨[(k, b, u2)], ⟨rfl, rfl, key_of J2.hok hb, trivial⟩, dd, fun g t dg sg => wpAny_pure ⟨.ref s.heap.objs.size, _, ?_, rfl, q3⟩⟩
  obtain ⟨ob, es, ep, h1, h2, h3, h4, _, h5⟩ := dg
  refine d_write J2 (by rw [hD]; trivial) sg ⟨ob, h1⟩ ⟨by show 1 ≤ sizeLine; decide, nd, _, (KT.put (kvs := []) .nil k hb r2).keeps fun c ys ec => ?_, ob, es, ep, h1, h2, h3, h4, h5⟩
  rw [upd_ne (ne_of ec hD fun z => nomatch z)]
  exact ec⟩
/-! ### a dict comprehension without tests, whatever kind of dict: d0 the new one, put the store -/
def tDcG (d0 : HO) (put : Addr → V → V → Hp → Hp → Prop) (src : TI) (g : TG) (tky tvl : TE) (vs : List Nat) : TE := fun σ H Q => src σ H fun J H1 => ∀ D, H1 D = none → ∃ Z : Nat → Nat → Hp → Prop, (∃ m, Z 0 m (upd H1 D d0)) ∧ ∀ i m G, Z i m G →
  (J.stop i G ∧ Q (.ref D) G) ∨ (J.go i G ∧ ∃ Nx : Hp → Prop, (∀ G', Nx G' → ∃ m', m' < m ∧ Z (i + 1) m' G') ∧ ∀ x G', J.yld i G x G' → g x (wipe σ vs) G' fun σ2 G2 => wipe σ2 vs = wipe σ vs ∧
    tky σ2 G2 fun y G3 => tvl σ2 G3 fun z G4 => ∃ G5, put D y z G4 G5 ∧ Nx G5)
/-- what stands of the def around while the block runs -/
structure Blk0 (X : Cx) (pins : List (Addr × Obj)) (σ : L2.St) (s3 : Shared) (G0 : Hp) (fp : List Addr) : Prop where
  inv : Inv X pins σ G0 s3
  ok : ∀ b ∈ fp, FpOk X pins G0 b ∧ b < s3.heap.objs.size
theorem dcG_core {use : Option (Value → Sem Unit)} {Qf : Value → Shared → Prop} {Q : VK} {pos' : Pos} {kx vx tg iter : Expr} {scope : Scope} {own : List (Str × Nat)} {pos : Pos} {src : TI} {g : TG} {tky tvl : TE} {d0 : HO} {put : Addr → V → V → Hp → Hp → Prop} (I : Inv X pins σ H s) (hc : X.calm = true) (hN : X.N.Nodup) (hi : PI X tg iter src) (ok : BlkOk X.N X.env.scope scope own)
    (new : ∀ (H : Hp) (h : Heap), sysModules < h.objs.size → ObjOk X.prog X.w H (h.push { cls := .type "dict", data := .dict #[] }) h.objs.size d0)
    (sto : ∀ (Y : Cx) (pins : List (Addr × Obj)) (σ : L2.St) (s : Shared) (H H' : Hp) (D : Addr) (y z : V) (u r : Value) (Q : Unit → Shared → Prop) (EE : Value → Shared → Prop), Y.prog = X.prog → Y.w = X.w → Y.A = X.A → Inv Y pins σ H s → RelV y u → RelV z r → put D y z H H' → (∀ s', Inv Y pins σ H' s' → Q () s') → wpAny (model X.prog X.w) X.A (dictSet D u r) Q EE s)
    (hg : ∀ (s : Shared) (H : Hp) (C : Addr) (cl : List (Str × Addr)) (fp : List Addr), PG (X.blk s H scope (compEnvC scope cl C X.env) fp) tg g)
    (hk : ∀ (s : Shared) (H : Hp) (C : Addr) (cl : List (Str × Addr)) (fp : List Addr), PE (X.blk s H scope (compEnvC scope cl C X.env) fp) kx tky)
    (hv : ∀ (s : Shared) (H : Hp) (C : Addr) (cl : List (Str × Addr)) (fp : List Addr), PE (X.blk s H scope (compEnvC scope cl C X.env) fp) vx tvl) (hs : ∀ x, foldedSetIterable iter X.env x = pure x)
    (h : tDcG d0 put src g tky tvl (own.map (·.2)) σ H Q)
    (post : ∀ D C t m H', Inv X pins σ H' t → Q (.ref D) H' → t.heap.Ns C m → FpOk X pins H' C → compPost (model X.prog X.w) X.A X.xe use Qf (.ref D) C (.ok .next) t) :
    wpAny (model X.prog X.w) X.A (comprehension (.DictComp kx vx [⟨tg, iter, [], 0⟩] scope pos) scope X.env pos' newDict false (eval iter X.env) use) Qf X.xe s := by
  have caught : ∀ y ∈ scope.names, y.2 = .free → ∃ c, X.env.cells.lookup y.1 = some c := fun y hy e => (ok.free y hy e).elim (fun k => I.ok.has _ (.inl k)) fun k => I.ok.has _ (.inr k)
  refine wpAny_comprehension_free (use := use) rfl hs (closure_ok caught) ok.kind (fun y hy e => by rw [ok.uniq y hy, e]) (thn (hi.run pins s σ H _ I h) fun xv s1 k1 => thn k1 fun iv s2 k2 => ?_)
  obtain ⟨it, fp, tn, J, H2, rfl, I2, T, at0, fp2, q⟩ := k2
  refine wpAny_newObj_type (newEnv_comp ?_)
  obtain ⟨Z, ⟨m0, z0⟩, turn⟩ := q s2.heap.objs.size (I2.hok.fresh (Nat.le_refl _))
  -- the new dict, then the new block
  obtain ⟨s3, e3⟩ : ∃ s3 : Shared, s3 = { s2 with heap := s2.heap.push { cls := .type "dict", data := .dict #[] } } := ⟨_, rfl⟩
  obtain ⟨G0, eG⟩ : ∃ G0 : Hp, G0 = upd H2 s2.heap.objs.size d0 := ⟨_, rfl⟩
  have B : Blk0 X pins σ s3 G0 fp := by
    subst e3 eG
    refine ⟨I2.laid (t' := s2.toks) (fun b o e => Heap.get?_push_of_some _ e) (Nat.le_refl _) (new _ _ I2.big), fun b hb => ?_⟩
    obtain ⟨o, e, _⟩ := T.obj _ _ at0 b hb
    have lt := Heap.lt_size e
    refine ⟨⟨?_, (fp2 b hb).2⟩, ?_⟩
    · rw [upd_ne (Nat.ne_of_lt lt)]; exact (fp2 b hb).1
    · show b < (s2.heap.push _).objs.size
      rw [Heap.size_push]; exact Nat.lt_succ_of_lt lt
  have at3 : tn 0 s3.heap := T.keep _ _ _ at0 fun b _ o e => by subst e3; exact Heap.get?_push_of_some _ e
  have IB := block_start B.inv ok hN B.ok
  rw [← eG] at z0
  have size3 : s3.heap.objs.size = (s2.heap.push { cls := .type "dict", data := .dict #[] }).objs.size := by subst e3; rfl
  have pg := hg s3 G0 s3.heap.objs.size (cellsFrom (s3.heap.objs.size + 1) scope.names (cloFrom X.env.cells scope.names [])) fp
  have pk := hk s3 G0 s3.heap.objs.size (cellsFrom (s3.heap.objs.size + 1) scope.names (cloFrom X.env.cells scope.names [])) fp
  have pv := hv s3 G0 s3.heap.objs.size (cellsFrom (s3.heap.objs.size + 1) scope.names (cloFrom X.env.cells scope.names [])) fp
  show codeAny _ _ (.compStart (.DictComp kx vx [⟨tg, iter, [], 0⟩] scope pos) 0 (.ref it) (.ref s2.heap.objs.size) (compEnvC scope (cellsFrom ((s2.heap.push { cls := .type "dict", data := .dict #[] }).objs.size + 1) scope.names (cloFrom X.env.cells scope.names [])) (s2.heap.push { cls := .type "dict", data := .dict #[] }).objs.size X.env)) (compPost (model X.prog X.w) X.A X.xe use Qf (.ref s2.heap.objs.size) (s2.heap.push { cls := .type "dict", data := .dict #[] }).objs.size) { s2 with heap := pushCells ((s2.heap.push { cls := .type "dict", data := .dict #[] }).push { cls := .type "dict", data := .dict #[] }) scope.names }
  rw [← size3]
  obtain ⟨ce, ece⟩ : ∃ ce, ce = compEnvC scope (cellsFrom (s3.heap.objs.size + 1) scope.names (cloFrom X.env.cells scope.names [])) s3.heap.objs.size X.env := ⟨_, rfl⟩
  have here : ce.locals = s3.heap.objs.size := by rw [ece]; rfl
  rw [← ece] at IB pg pk pv ⊢
  obtain ⟨s4, e4⟩ : ∃ s4 : Shared, s4 = { s3 with heap := pushCells (s3.heap.push { cls := .type "dict", data := .dict #[] }) scope.names } := ⟨_, rfl⟩
  rw [← e4] at IB
  have back4 : ({ s2 with heap := pushCells ((s2.heap.push { cls := .type "dict", data := .dict #[] }).push { cls := .type "dict", data := .dict #[] }) scope.names } : Shared) = s4 := by subst e4 e3; rfl
  rw [back4]
  have at4 : tn 0 s4.heap := T.keep _ _ _ at3 fun b _ o e => by rw [e4]; exact pushCells_keeps _ _ _ _ (Heap.get?_push_of_some _ e)
  have fps : ∀ {τ : L2.St} {G : Hp} {t : Shared}, Inv (X.blk s3 G0 scope ce fp) [] τ G t → (∀ b ∈ fp, G b = none) → ∀ b ∈ fp, FpOk (X.blk s3 G0 scope ce fp) [] G b := fun {τ G t} J none_ b hb =>
    ⟨none_ b hb, (J.ok.exf b hb).1, J.ok.exfs b hb, .inl hb, fun x c e => (J.ok.exf b hb).2 x c e, fun p hp => absurd (show p ∈ ([] : List (Addr × Obj)) ++ [] from hp) (by simp)⟩
  have run : codeAny (model X.prog X.w) X.A (.compLoop (.DictComp kx vx [⟨tg, iter, [], 0⟩] scope pos) 0 (.ref it) (.ref s2.heap.objs.size) ce) (compPost (model X.prog X.w) X.A X.xe use Qf (.ref s2.heap.objs.size) s3.heap.objs.size) s4 := by
    refine compLoop_anyD (fun n t => ∃ i G, Inv (X.blk s3 G0 scope ce fp) [] (wipe σ (own.map (·.2))) G t ∧ tn i t.heap ∧ (∀ b ∈ fp, G b = none) ∧ Z i n G) ?_ m0 ⟨0, G0, IB, at4, fun b hb => (B.ok b hb).1.1, z0⟩
    rintro n t ⟨i, G, J1, atI, none_, zi⟩
    rcases turn i n G zi with ⟨over, fine⟩ | ⟨on, Nx, less, body⟩
    · refine thnF (T.done (X.blk s3 G0 scope ce fp) rfl rfl rfl hc i [] t _ G (fun _ _ => False) J1 (fps J1 none_) atI over) fun r t1 ⟨er, J2⟩ => ?_
      subst er
      have out : Inv X pins σ G t1 := B.inv.call' (ch := fp) J2.os J2.base J2.hok J2.bare fun b hb => ⟨(B.ok b hb).1.2.2.2.1, (B.ok b hb).1.2.1, (B.ok b hb).1.2.2.2.2.1, (B.ok b hb).1.2.2.2.2.2⟩
      have free : G s3.heap.objs.size = none := by rw [← here]; exact J2.free
      obtain ⟨m, ns, _⟩ := J2.loc
      exact post _ _ t1 m G out fine (by rw [← here]; exact ns) (B.inv.fpOk (Nat.le_refl _) free)
    · refine thnF (T.item (X.blk s3 G0 scope ce fp) rfl rfl rfl hc i [] t _ G (fun _ _ => False) J1 (fps J1 none_) atI on) fun r t1 ⟨u, er, k6⟩ => ?_
      subst er
      refine thnF k6 fun _ t2 ⟨x, G2, J2, rx, yx, at2, none2⟩ => ?_
      refine thnF (pg.run _ t2 _ G2 x u _ (J2.pinned (fps J2 none2) (T.obj _ _ at2)) rx (body x G2 yx)) fun _ t3 ⟨τ, G3, J3, wτ, q3⟩ => ?_
      rw [List.forIn_nil]
      refine wpAny_pure ?_
      rw [if_pos rfl]
      refine thnF (pk.run _ t3 τ G3 _ J3 q3) fun uk t4 ⟨y, G4, J4, ry, q4⟩ => thnF (pv.run _ t4 τ G4 _ J4 q4) fun uv t5 ⟨z, G5, J5, rz, G6, pt, nx⟩ => ?_
      refine sto (X.blk s3 G0 scope ce fp) _ τ t5 G5 G6 s2.heap.objs.size y z uk uv _ _ rfl rfl rfl J5 ry rz pt fun t6 J6 => ?_
      obtain ⟨m', lt, z'⟩ := less G6 nx
      have stay : ∀ b ∈ fp, ∀ o, t2.heap.get? b = some o → t6.heap.get? b = some o ∧ G6 b = none := fun b hb o e =>
        have w := J6.pin (b, o) (List.mem_append_right _ (List.mem_append_right _ (mem_pinsAt hb e)))
        ⟨w.1, w.2.1⟩
      refine ⟨m', lt, i + 1, G6, (J6.unpinned (pins := [])).weak (by rw [← wτ, wipe_length]) (fun j v e => ?_), T.keep _ _ _ at2 fun b hb o e => (stay b hb o e).1, fun b hb => ?_, z'⟩
      · rw [← wτ] at e; exact (wipe_some e).1
      · obtain ⟨o, e, _⟩ := T.obj _ _ at2 b hb
        exact (stay b hb o e).2
  exact codeAny_compStart_dict run (T.self X.A 0 _ _ _ at4 run)
theorem pe_dcG {kx vx tg iter : Expr} {scope : Scope} {own : List (Str × Nat)} {pos : Pos} {src : TI} {g : TG} {tky tvl : TE} {d0 : HO} {put : Addr → V → V → Hp → Hp → Prop} (hc : X.calm = true) (hN : X.N.Nodup) (hi : PI X tg iter src) (ok : BlkOk X.N X.env.scope scope own)
    (new : ∀ (H : Hp) (h : Heap), sysModules < h.objs.size → ObjOk X.prog X.w H (h.push { cls := .type "dict", data := .dict #[] }) h.objs.size d0)
    (sto : ∀ (Y : Cx) (pins : List (Addr × Obj)) (σ : L2.St) (s : Shared) (H H' : Hp) (D : Addr) (y z : V) (u r : Value) (Q : Unit → Shared → Prop) (EE : Value → Shared → Prop), Y.prog = X.prog → Y.w = X.w → Y.A = X.A → Inv Y pins σ H s → RelV y u → RelV z r → put D y z H H' → (∀ s', Inv Y pins σ H' s' → Q () s') → wpAny (model X.prog X.w) X.A (dictSet D u r) Q EE s)
    (hg : ∀ (s : Shared) (H : Hp) (C : Addr) (cl : List (Str × Addr)) (fp : List Addr), PG (X.blk s H scope (compEnvC scope cl C X.env) fp) tg g)
    (hk : ∀ (s : Shared) (H : Hp) (C : Addr) (cl : List (Str × Addr)) (fp : List Addr), PE (X.blk s H scope (compEnvC scope cl C X.env) fp) kx tky)
    (hv : ∀ (s : Shared) (H : Hp) (C : Addr) (cl : List (Str × Addr)) (fp : List Addr), PE (X.blk s H scope (compEnvC scope cl C X.env) fp) vx tvl) (hs : ∀ x, foldedSetIterable iter X.env x = pure x := by intro _; rfl) :
    PE X (.DictComp kx vx [⟨tg, iter, [], 0⟩] scope pos) (tDcG d0 put src g tky tvl (own.map (·.2))) := ⟨fun pins s σ H Q I h => by
  rw [arm_eval_DictComp]
  exact dcG_core I hc hN hi ok new sto hg hk hv hs h fun D C t m H' J q ns f => ⟨m, ns, fun h'' sb => ⟨.ref D, H', J.turned (t' := t.toks) (fun b o hb e => (sb.2 b hb).trans e) f.1 f.2.1 f.2.2.2.1 f.2.2.2.2.1 f.2.2.2.2.2, rfl, q⟩⟩⟩
/-- y = {..} on one line, y a local -/
theorem ps_setDcG {i : Nat} {y : Str} {py spos : Pos} {kx vx tg iter : Expr} {scope : Scope} {own : List (Str × Nat)} {pos : Pos} {src : TI} {g : TG} {tky tvl : TE} {d0 : HO} {put : Addr → V → V → Hp → Hp → Prop} (hc : X.calm = true) (hN : X.N.Nodup) (hi : PI X tg iter src) (ok : BlkOk X.N X.env.scope scope own)
    (new : ∀ (H : Hp) (h : Heap), sysModules < h.objs.size → ObjOk X.prog X.w H (h.push { cls := .type "dict", data := .dict #[] }) h.objs.size d0)
    (sto : ∀ (Y : Cx) (pins : List (Addr × Obj)) (σ : L2.St) (s : Shared) (H H' : Hp) (D : Addr) (y z : V) (u r : Value) (Q : Unit → Shared → Prop) (EE : Value → Shared → Prop), Y.prog = X.prog → Y.w = X.w → Y.A = X.A → Inv Y pins σ H s → RelV y u → RelV z r → put D y z H H' → (∀ s', Inv Y pins σ H' s' → Q () s') → wpAny (model X.prog X.w) X.A (dictSet D u r) Q EE s)
    (hg : ∀ (s : Shared) (H : Hp) (C : Addr) (cl : List (Str × Addr)) (fp : List Addr), PG (X.blk s H scope (compEnvC scope cl C X.env) fp) tg g)
    (hk : ∀ (s : Shared) (H : Hp) (C : Addr) (cl : List (Str × Addr)) (fp : List Addr), PE (X.blk s H scope (compEnvC scope cl C X.env) fp) kx tky)
    (hv : ∀ (s : Shared) (H : Hp) (C : Addr) (cl : List (Str × Addr)) (fp : List Addr), PE (X.blk s H scope (compEnvC scope cl C X.env) fp) vx tvl) (hs : ∀ x, foldedSetIterable iter X.env x = pure x := by intro _; rfl)
    (hy : X.N[i]? = some y) (hyl : X.env.scope.names.lookup y = some .local) (hsw : swapsWith (.DictComp kx vx [⟨tg, iter, [], 0⟩] scope pos) (some (.Name y py)) spos.line X.env = pure true) :
    PS X (.Assign [.Name y py] (.DictComp kx vx [⟨tg, iter, [], 0⟩] scope pos) spos) (tAsg (tDcG d0 put src g tky tvl (own.map (·.2))) (gName i)) := ⟨fun pins s σ H D I h => by
  rw [exec_Assign_Name_used _ _ _ _ hsw]
  refine wpAny_bind (wpAny_standAt (wpAny_bind ?_))
  show wpAny _ X.A (do let _ ← comprehension (.DictComp kx vx [⟨tg, iter, [], 0⟩] scope pos) scope X.env (firstIterPos [⟨tg, iter, [], 0⟩] pos) newDict false (eval iter X.env) (some (assign (.Name y py) X.env))) _ _ s
  have h : tDcG d0 put src g tky tvl (own.map (·.2)) σ H (fun x H1 => gName i x σ H1 D.nx) := h
  refine wpAny_bind (thn (dcG_core (Qf := fun _ s' => SP X pins D .next s') I hc hN hi ok new sto hg hk hv hs h fun L C t m H' J q ns f => ?_) fun _ t' hq => wpAny_pure (wpAny_pure hq))
  show wpAny _ _ (assign (.Name y py) X.env (.ref L)) _ _ _
  refine wpAny_assign_Name (store_ok2 (v := V.ref L) J hN hy (.inl hyl) rfl (fun s2 I2 ⟨a, sb, ha⟩ => ?_) (.inr hyl))
  have far : C ≠ a := ha.elim (fun z => by rw [z]; exact f.2.1) fun z e => f.2.2.2.2.1 y a z e.symm
  exact ⟨m, ns.sameBut sb far, fun h3 sb3 => ⟨_, H', I2.turned (t' := s2.toks) (fun b o hb e => (sb3.2 b hb).trans e) f.1 f.2.1 f.2.2.2.1 f.2.2.2.2.1 f.2.2.2.2.2, q⟩⟩⟩
theorem sw_dct {kx vx : Expr} {gs : List Comprehension} {scope : Scope} {pos py : Pos} {y : Str} {l : Nat} {env : Env} (hk : env.scope.kind = .function) (hy : env.scope.names.lookup y = some .local) (hl : (py.line == pos.line) = true)
    (ha : (scope.names.any fun (n, k) => n == y && (k == .local || k == .cell)) = false) : swapsWith (.DictComp kx vx gs scope pos) (some (.Name y py)) l env = pure true := by
  have e1 : env.kindOf y = some .local := hy
  have e2 : env.blockKind = .function := by unfold Env.blockKind; rw [hk]; rfl
  unfold swapsWith
  simp only [e1, e2, ha, Expr.pos, hl]
  rfl
theorem sw_cell {elt : Expr} {gs : List Comprehension} {scope : Scope} {pos py : Pos} {y : Str} {l : Nat} {env : Env} (hy : env.scope.names.lookup y = some .cell) : swapsWith (.ListComp elt gs scope pos) (some (.Name y py)) l env = pure false := by
  have e1 : env.kindOf y = some .cell := hy
  unfold swapsWith
  simp only [e1]
  cases env.blockKind <;> rfl
/-- the store of a comprehension's pair into a dict with tuples for keys -/
def putT : Addr → V → V → Hp → Hp → Prop := fun D y z G G' => ∃ kvs k b, y = .ref b ∧ G b = some (.tup (k.map kV)) ∧ G D = some (.dT kvs) ∧ kvs.length < sizeLine ∧ G' = upd G D (.dT (putK kvs k z))
theorem pe_dcT {kx vx tg iter : Expr} {scope : Scope} {own : List (Str × Nat)} {pos : Pos} {src : TI} {g : TG} {tky tvl : TE} (hu : X.A.units + 1 < cLine) (hc : X.calm = true) (hN : X.N.Nodup) (hi : PI X tg iter src) (ok : BlkOk X.N X.env.scope scope own)
    (hg : ∀ (s : Shared) (H : Hp) (C : Addr) (cl : List (Str × Addr)) (fp : List Addr), PG (X.blk s H scope (compEnvC scope cl C X.env) fp) tg g)
    (hk : ∀ (s : Shared) (H : Hp) (C : Addr) (cl : List (Str × Addr)) (fp : List Addr), PE (X.blk s H scope (compEnvC scope cl C X.env) fp) kx tky)
    (hv : ∀ (s : Shared) (H : Hp) (C : Addr) (cl : List (Str × Addr)) (fp : List Addr), PE (X.blk s H scope (compEnvC scope cl C X.env) fp) vx tvl) (hs : ∀ x, foldedSetIterable iter X.env x = pure x := by intro _; rfl) :
    PE X (.DictComp kx vx [⟨tg, iter, [], 0⟩] scope pos) (tDcG (.dT []) putT src g tky tvl (own.map (·.2))) :=
  pe_dcG hc hN hi ok (fun H h big => dt_empty h big) (fun Y pins σ s H H' D y z u r Q EE hp hw hA I ry rz ⟨kvs, k, b, ey, hb, hD, hz, eH⟩ hQ => by
    subst ey eH
    have eu : u = Value.ref b := ry
    subst eu
    rw [← hp, ← hw]
    exact dictSetT hu I hD hz hb rz hQ) hg hk hv hs
theorem ps_setDcT {i : Nat} {y : Str} {py spos : Pos} {kx vx tg iter : Expr} {scope : Scope} {own : List (Str × Nat)} {pos : Pos} {src : TI} {g : TG} {tky tvl : TE} (hu : X.A.units + 1 < cLine) (hc : X.calm = true) (hN : X.N.Nodup) (hi : PI X tg iter src) (ok : BlkOk X.N X.env.scope scope own)
    (hg : ∀ (s : Shared) (H : Hp) (C : Addr) (cl : List (Str × Addr)) (fp : List Addr), PG (X.blk s H scope (compEnvC scope cl C X.env) fp) tg g)
    (hk : ∀ (s : Shared) (H : Hp) (C : Addr) (cl : List (Str × Addr)) (fp : List Addr), PE (X.blk s H scope (compEnvC scope cl C X.env) fp) kx tky)
    (hv : ∀ (s : Shared) (H : Hp) (C : Addr) (cl : List (Str × Addr)) (fp : List Addr), PE (X.blk s H scope (compEnvC scope cl C X.env) fp) vx tvl) (hs : ∀ x, foldedSetIterable iter X.env x = pure x := by intro _; rfl)
    (hy : X.N[i]? = some y) (hyl : X.env.scope.names.lookup y = some .local) (hsw : swapsWith (.DictComp kx vx [⟨tg, iter, [], 0⟩] scope pos) (some (.Name y py)) spos.line X.env = pure true) :
    PS X (.Assign [.Name y py] (.DictComp kx vx [⟨tg, iter, [], 0⟩] scope pos) spos) (tAsg (tDcG (.dT []) putT src g tky tvl (own.map (·.2))) (gName i)) :=
  ps_setDcG hc hN hi ok (fun H h big => dt_empty h big) (fun Y pins σ s H H' D y z u r Q EE hp hw hA I ry rz ⟨kvs, k, b, ey, hb, hD, hz, eH⟩ hQ => by
    subst ey eH
    have eu : u = Value.ref b := ry
    subst eu
    rw [← hp, ← hw]
    exact dictSetT hu I hD hz hb rz hQ) hg hk hv hs hy hyl hsw
end
end Dl
namespace Dl
open PySem L2 PyProof.Rows
/-! ### dicts with tuples of ints for keys -/
abbrev DD := List (List Key × Dt)
def valD (kvs : DD) (k : List Key) : Option Dt := (kvs.find? fun kv => decide (kv.1 = k)).map (·.2)
def putD (kvs : DD) (k : List Key) (d : Dt) : DD := if (kvs.any fun kv => decide (kv.1 = k)) = true then kvs.map (fun kv => if kv.1 = k then (kv.1, d) else kv) else kvs ++ [(k, d)]
@[simp] def keyD : Dt → Option (List Key)
  | .tup ds => (intsOf ds).map (·.map Sum.inl)
  | _ => none
theorem putD_len (kvs : DD) (k : List Key) (d : Dt) : (putD kvs k d).length ≤ kvs.length + 1 := by
  unfold putD; split <;> simp
section
variable {K : PySem.W.Frag} {cl : Str → Addr} {E : Hp}
theorem DnD.any {k : List Key} : ∀ {ds : DD} {kvs : List (List Key × V)}, DnD K cl E kvs ds → (kvs.any fun kv => decide (kv.1 = k)) = ds.any fun kv => decide (kv.1 = k)
  | [], _, h => by cases h; rfl
  | (j, d) :: ds, _, h => by
    cases h with
    | cons h r => simp only [List.any_cons, DnD.any r]
theorem DnD.val {k : List Key} : ∀ {ds : DD} {kvs : List (List Key × V)}, DnD K cl E kvs ds → (∀ d, valD ds k = some d → ∃ v, valV kvs k = some v ∧ Dn K cl E v d) ∧ (valD ds k = none → valV kvs k = none)
  | [], _, h => by cases h; exact ⟨fun _ q => (nomatch q), fun _ => rfl⟩
  | (j, d) :: ds, _, h => by
    cases h with
    | cons h r =>
      rename_i v vs
      by_cases e : j = k
      · have e1 : valD ((j, d) :: ds) k = some d := by simp [valD, List.find?_cons, e]
        rw [e1, valV_pos (p := (j, v)) e]
        exact ⟨fun _ q => by cases q; exact ⟨v, rfl, h⟩, fun q => (nomatch q)⟩
      · have e1 : valD ((j, d) :: ds) k = valD ds k := by simp [valD, List.find?_cons, e]
        rw [e1, valV_neg (p := (j, v)) e]
        exact DnD.val r
theorem DnD.repl {k : List Key} {v : V} {d : Dt} (g : Dn K cl E v d) : ∀ {ds : DD} {kvs : List (List Key × V)}, DnD K cl E kvs ds → DnD K cl E (kvs.map fun kv => if kv.1 = k then (kv.1, v) else kv) (ds.map fun kv => if kv.1 = k then (kv.1, d) else kv)
  | [], _, h => by cases h; exact .nil
  | (j, e) :: ds, _, h => by
    cases h with
    | cons h r =>
      rw [List.map_cons, List.map_cons]
      by_cases q : j = k
      · rw [if_pos q, if_pos q]; exact .cons g (DnD.repl g r)
      · rw [if_neg q, if_neg q]; exact .cons h (DnD.repl g r)
theorem DnD.snoc {k : List Key} {v : V} {d : Dt} (g : Dn K cl E v d) : ∀ {ds : DD} {kvs : List (List Key × V)}, DnD K cl E kvs ds → DnD K cl E (kvs ++ [(k, v)]) (ds ++ [(k, d)])
  | [], _, h => by cases h; exact .cons g .nil
  | (j, e) :: ds, _, h => by
    cases h with
    | cons h r => exact .cons h (DnD.snoc g r)
theorem DnD.put {k : List Key} {v : V} {d : Dt} {ds : DD} {kvs : List (List Key × V)} (h : DnD K cl E kvs ds) (g : Dn K cl E v d) : DnD K cl E (putK kvs k v) (putD ds k d) := by
  unfold putK putD
  rw [h.any]
  split
  · exact h.repl g
  · exact h.snoc g
theorem key_at {v : V} {d : Dt} {k : List Key} (h : Dn K cl E v d) (e : keyD d = some k) : ∃ b, v = .ref b ∧ E b = some (.tup (k.map kV)) := by
  cases d with
  | tup ds =>
    have e : (intsOf ds).map (·.map Sum.inl) = some k := e
    cases q : intsOf ds with
    | none => rw [q] at e; cases e
    | some ns =>
      rw [q] at e; cases e
      have := intsOf_eq q; subst this
      cases h with
      | tup p r =>
        have := r.ints; subst this
        refine ⟨_, rfl, ?_⟩
        rw [List.map_map]; exact p
  | _ => cases e
theorem Wk.dictD {H : Hp} {v : V} {kvs : DD} (h : Wk K cl E H v (.dct kvs)) (s : Sub E H) : ∃ a vs, v = .ref a ∧ Rd H a (.dT vs) ∧ DnD K cl E vs kvs := by
  rcases h with h | ⟨a, rfl, _, vs, h1, h2⟩
  · cases h with
    | dct hs hr => exact ⟨_, _, rfl, s.rd hs, hr⟩
  · exact ⟨a, vs, rfl, .inl h1, h2⟩
end
section
variable {K : PySem.W.Frag} {cl : Str → Addr} {X : Cx} {W : L2.WX} {R : Rel} {S : Rl4} {a b c e x tg iter elt : Expr} {es rest ifs : List Expr} {f g h : Ev} {t : Tv} {fa : Av} {pos p p2 p3 : Pos} {n : Str}
/-! ### x[i] of anything -/
@[simp] def oAt : Dt → Dt → Option Dt
  | .lst ds, .int i => atI ds i
  | .tup ds, .int i => atI ds i
  | .str z, .int i => if z.length ≤ sizeLine then (atI z.cps.toList i).map fun c => .str ⟨#[c]⟩ else none
  | .scr ns, .int i => (atI ns i).map .int
  | .dct kvs, .tup ds => (keyD (.tup ds)).bind (valD kvs)
  | _, _ => none
theorem oAt_ix {x : Dt} (h : ∀ kvs, x ≠ .dct kvs) (y : Dt) : oAt x y = oIx x y := by
  cases x with
  | dct kvs => exact absurd rfl (h kvs)
  | _ => cases y <;> rfl
theorem d_at (hu : X.A.units + 64 < cLine) (ha : PE X a (tW X.K cl W f)) (hb : PE X b (tD X.K cl W g)) (hs : PlainIx b) : PE X (.Subscript a b pos) (tD X.K cl W (c2 oAt f g)) :=
  PE.imp (PE.or (d_ix ha hb hs) (pe_dget (by omega) ha hb hs)) fun σ H Q ⟨E0, H0, E, ρ, r, k⟩ => by
    have other : (∀ kvs, f ρ ≠ .ok (.dct kvs)) → c2 oIx f g ρ = c2 oAt f g ρ := fun hn => by
      unfold c2
      cases q : f ρ with
      | st => rfl
      | ex n => rfl
      | ok d =>
        show (g ρ).bind _ = (g ρ).bind _
        congr 1
        funext y
        rw [oAt_ix (fun kvs z => hn kvs (by rw [q, z]))]
    cases q : f ρ with
    | st => exact .inl ⟨E0, H0, E, ρ, r, by rw [other (fun kvs z => by rw [q] at z; cases z)]; exact k⟩
    | ex n => exact .inl ⟨E0, H0, E, ρ, r, by rw [other (fun kvs z => by rw [q] at z; cases z)]; exact k⟩
    | ok d =>
      by_cases hd : ∃ kvs, d = .dct kvs
      · obtain ⟨kvs, rfl⟩ := hd
        have k := An.bind k
        rw [q] at k
        refine .inr ⟨E0, H0, E, ρ, r, ?_⟩
        rw [q]
        refine fun v E1 H1 g1 s1 => ⟨E0, H0, E1, ρ, r.grow g1, (An.bind k).grow g1 fun y k w E2 H2 g2 s2 => ?_⟩
        obtain ⟨z, hz, k2⟩ := An.ofO k
        clear k
        have g := g1.trans g2
        obtain ⟨a1, vs, rfl, p1, r1⟩ := (s1.mono g2).dictD g.eh
        have hz : oAt (.dct kvs) y = some z := hz
        cases y with
        | tup ds =>
          have hz : (keyD (.tup ds)).bind (valD kvs) = some z := hz
          cases qk : keyD (.tup ds) with
          | none => rw [qk] at hz; cases hz
          | some kk =>
            rw [qk] at hz
            obtain ⟨b1, rfl, eb⟩ := key_at s2 qk
            obtain ⟨u, hu1, hd1⟩ := (r1.val (k := kk)).1 z hz
            exact ⟨a1, u, rfl, .inr ⟨_, _, _, p1, rfl, g.eh _ _ eb, hu1.symm⟩, k2 u E2 H2 g hd1⟩
        | _ => cases hz
      · exact .inl ⟨E0, H0, E, ρ, r, by rw [other (fun kvs z => by rw [q] at z; cases z; exact hd ⟨kvs, rfl⟩)]; exact k⟩
/-! ### x in d, x not in d -/
@[simp] def oInA (x : Dt) : Dt → Option Dt
  | .dct kvs => (keyD x).map fun k => .bl (valD kvs k).isSome
  | .lst ds => oIn x (.lst ds)
  | .tup ds => oIn x (.tup ds)
  | .cst ds => oIn x (.cst ds)
  | _ => none
@[simp] def oNinA (x : Dt) : Dt → Option Dt
  | .dct kvs => (keyD x).map fun k => .bl (!(valD kvs k).isSome)
  | .lst ds => oNin x (.lst ds)
  | .tup ds => oNin x (.tup ds)
  | .cst ds => oNin x (.cst ds)
  | _ => none
theorem oInA_in {x y z : Dt} (h : ∀ kvs, y ≠ .dct kvs) (e : oInA x y = some z) : oIn x y = some z := by
  cases y <;> first | exact absurd rfl (h _) | exact e | cases e
theorem oNinA_in {x y z : Dt} (h : ∀ kvs, y ≠ .dct kvs) (e : oNinA x y = some z) : oNin x y = some z := by
  cases y <;> first | exact absurd rfl (h _) | exact e | cases e
theorem din_ {neg : Bool} {o oA : Dt → Dt → Option Dt} (hA : ∀ {x y z : Dt}, (∀ kvs, y ≠ .dct kvs) → oA x y = some z → o x y = some z)
    (hD : ∀ x kvs, oA x (.dct kvs) = (keyD x).map fun k => .bl (if neg then !(valD kvs k).isSome else (valD kvs k).isSome)) (σ : L2.St) (H : Hp) (Q : VK) (h : tD K cl W (c2 oA f g) σ H Q) :
    tD K cl W (c2 o f g) σ H Q ∨ tW K cl W f σ H fun y H1 => tW K cl W g σ H1 fun x H2 => ∃ a od, x = .ref a ∧ DGet H2 a y od ∧ Q (.bl (if neg then !od.isSome else od.isSome)) H2 := by
  obtain ⟨E0, H0, E, ρ, r, k⟩ := h
  cases qf : f ρ with
  | st => have k := An.bind k; rw [qf] at k; exact k.elim
  | ex n => exact .inl ⟨E0, H0, E, ρ, r, by have k' := An.bind k; unfold c2; rw [qf] at k' ⊢; exact k'⟩
  | ok x =>
    have k := An.bind k
    rw [qf] at k
    have k : An cl W σ E H ((g ρ).bind fun y => ofO (oA x y)) _ := k
    cases qg : g ρ with
    | st => rw [qg] at k; exact k.elim
    | ex n =>
      refine .inl ⟨E0, H0, E, ρ, r, ?_⟩
      unfold c2
      rw [qf]
      show An cl W σ E H ((g ρ).bind fun y => ofO (o x y)) _
      rw [qg] at k ⊢
      exact k
    | ok y =>
      rw [qg] at k
      have k : An cl W σ E H (ofO (oA x y)) _ := k
      obtain ⟨z, hz, k⟩ := An.ofO k
      by_cases hy : ∃ kvs, y = .dct kvs
      · obtain ⟨kvs, rfl⟩ := hy
        rw [hD] at hz
        refine .inr ⟨E0, H0, E, ρ, r, ?_⟩
        rw [qf]
        intro v E1 H1 g1 s1
        refine ⟨E0, H0, E1, ρ, r.grow g1, ?_⟩
        rw [qg]
        intro w E2 H2 g2 s2
        have g := g1.trans g2
        obtain ⟨a1, vs, rfl, p1, r1⟩ := s2.dictD g.eh
        cases qk : keyD x with
        | none => rw [qk] at hz; cases hz
        | some kk =>
          rw [qk] at hz; cases hz
          have sx : Dn K cl H2 v x := (s1.mono g2).full g.eh
          obtain ⟨b1, rfl, eb⟩ := key_at sx qk
          refine ⟨a1, valV vs kk, rfl, .inr ⟨_, _, _, p1, rfl, eb, rfl⟩, ?_⟩
          have e : (valV vs kk).isSome = (valD kvs kk).isSome := by
            cases qv : valD kvs kk with
            | none => rw [(r1.val (k := kk)).2 qv]; rfl
            | some d =>
              obtain ⟨u, hu, _⟩ := (r1.val (k := kk)).1 d qv
              rw [hu]; rfl
          rw [e]
          exact k _ E2 H2 g (.bl _)
      · refine .inl ⟨E0, H0, E, ρ, r, ?_⟩
        unfold c2
        rw [qf]
        show An cl W σ E H ((g ρ).bind fun y => ofO (o x y)) _
        rw [qg]
        show An cl W σ E H (ofO (o x y)) _
        rw [hA (fun kvs z => hy ⟨kvs, z⟩) hz]
        exact k
theorem inA_i (σ : L2.St) (H : Hp) (Q : VK) (h : tD K cl W (c2 oInA f g) σ H Q) : tD K cl W (c2 oIn f g) σ H Q ∨ tDIn (tW K cl W f) (tW K cl W g) σ H Q :=
  din_ (neg := false) oInA_in (fun _ _ => rfl) σ H Q h
theorem ninA_i (σ : L2.St) (H : Hp) (Q : VK) (h : tD K cl W (c2 oNinA f g) σ H Q) : tD K cl W (c2 oNin f g) σ H Q ∨ tDNotIn (tW K cl W f) (tW K cl W g) σ H Q :=
  din_ (neg := true) oNinA_in (fun _ _ => rfl) σ H Q h
theorem d_inA (hu : X.A.units + 65 < cLine) (ha : PE X a (tW X.K cl W f)) (hb : PE X b (tW X.K cl W g)) (hm : behindInMarks .In b = false := by rfl) : PE X (.Compare a [.In] [b] pos) (tD X.K cl W (c2 oInA f g)) :=
  PE.imp (PE.or (d_in hu ha hb hm) (pe_cmp (pc_din (by omega) ha hb) hm)) inA_i
theorem d_ninA (hu : X.A.units + 65 < cLine) (ha : PE X a (tW X.K cl W f)) (hb : PE X b (tW X.K cl W g)) (hm : behindInMarks .NotIn b = false := by rfl) : PE X (.Compare a [.NotIn] [b] pos) (tD X.K cl W (c2 oNinA f g)) :=
  PE.imp (PE.or (d_nin hu ha hb hm) (pe_cmp (pc_dnotin (by omega) ha hb) hm)) ninA_i
theorem PT.or {t t' : TT} (h : PT X e t) (h' : PT X e t') : PT X e (fun σ H Q => t σ H Q ∨ t' σ H Q) := ⟨fun pins s σ H Q I q => q.elim (fun q => h.run pins s σ H Q I q) fun q => h'.run pins s σ H Q I q⟩
/-- a test that is told by one of two ways of the same value -/
theorem tst_or {t : TE} {o : Ev} (i : ∀ σ H Q, tD K cl W f σ H Q → tD K cl W o σ H Q ∨ t σ H Q) (σ : L2.St) (H : Hp) (Q : Bool → Hp → Prop) (h : tT K cl W (cT f) σ H Q) :
    (tD K cl W o σ H fun x H' => ∃ k, x = .bl k ∧ Q k H') ∨ t σ H fun x H' => ∃ k, x = .bl k ∧ Q k H' := by
  obtain ⟨E0, H0, E, ρ, r, an⟩ := h
  refine i σ H _ ⟨E0, H0, E, ρ, r, (An.bind an).imp fun d k v E' H' g s => ?_⟩
  cases s <;> first | exact k.elim | exact ⟨_, rfl, k E' H' g⟩
theorem pt_bool {t : TE} (h : PT X e (fun σ H Q => t σ H fun x H' => ∃ k, x = .bl k ∧ Q k H')) : PT X e (tB t) := h
theorem t_inA (hu : X.A.units + 65 < cLine) (ha : PE X a (tW X.K cl W f)) (hb : PE X b (tW X.K cl W g)) (hm : behindInMarks .In b = false := by rfl) : PT X (.Compare a [.In] [b] pos) (tT X.K cl W (cT (c2 oInA f g))) :=
  PT.imp (PT.or (pt_cmpR (op_in_seq.or ((op_inD hu).or (op_inT hu))) ha hb hm) (pt_cmp (pc_din (by omega) ha hb) hm)) fun σ H Q h => (tst_or inA_i σ H Q h).imp_left (in_i σ H _)
theorem t_ninA (hu : X.A.units + 65 < cLine) (ha : PE X a (tW X.K cl W f)) (hb : PE X b (tW X.K cl W g)) (hm : behindInMarks .NotIn b = false := by rfl) : PT X (.Compare a [.NotIn] [b] pos) (tT X.K cl W (cT (c2 oNinA f g))) :=
  PT.imp (PT.or (pt_cmpR (op_notIn_seq.or ((op_notInD hu).or (op_ninT hu))) ha hb hm) (pt_cmp (pc_dnotin (by omega) ha hb) hm)) fun σ H Q h => (tst_or ninA_i σ H Q h).imp_left (nin_i σ H _)
/-! ### new dicts -/
theorem n_dnew : PE X (.Dict [] [] pos) (tN K cl W (cK (.dct []))) :=
  PE.imp pe_dnewT fun σ H Q ⟨E0, H0, E, ρ, r, k⟩ D n => k _ E _ (Gr.one r.sb.sub n fun z => z) ⟨D, rfl, n, r.sb.sub.fresh n, [], upd_same, .nil⟩
theorem Gr.off {E H E2 H2 : Hp} {L : Addr} {o : HO} (g : Gr E (upd H L o) E2 H2) (n : H L = none) (no : ¬ Imm o) : Gr E H E2 H2 := by
  have s : Sub H (upd H L o) := Sub.up n
  refine ⟨g.ee, (Up.of s).trans g.hh, (Tb.of s).trans g.tb, g.nt, g.eh, fun x q1 q2 => g.nw x (fun z => q1 ?_) q2, fun x u q1 q2 q3 => ?_⟩
  · by_cases hx : x = L
    · subst hx; exact n
    · rw [upd_ne hx] at z; exact z
  · by_cases hx : x = L
    · subst hx
      rcases g.hh x o upd_same with z | ⟨_, _, _, z⟩
      · rw [q2] at z; cases z; exact absurd q3 no
      · rw [q2] at z; cases z; exact q3.elim
    · exact g.im x u (by rw [upd_ne hx]; exact q1) q2 q3
@[simp] def oDis : Dt → Dt → Option Dt := fun k d => (keyD k).map fun kk => .dct [(kk, d)]
theorem n_dis1 (hu : X.A.units + 64 < cLine) (ha : PE X a (tD X.K cl W f)) (hb : PE X b (tD X.K cl W g)) : PE X (.Dict [some a] [b] pos) (tN X.K cl W (c2 oDis f g)) :=
  PE.imp (pe_dis1 (by omega) ha hb) fun σ H Q ⟨E0, H0, E, ρ, r, k⟩ D n => by
    have n0 : E D = none := r.sb.sub.fresh n
    have g0 : Gr E H E (upd H D (.dT [])) := Gr.one r.sb.sub n fun z => z
    refine ⟨E0, H0, E, ρ, r.grow g0, (An.bind k).grow g0 fun x k v E1 H1 g1 s1 => ⟨E0, H0, E1, ρ, (r.grow g0).grow g1, (An.bind k).grow (g0.trans g1) fun y k w E2 H2 g2 s2 => ?_⟩⟩
    obtain ⟨z, hz, k⟩ := An.ofO k
    have hz : (keyD x).map (fun kk => Dt.dct [(kk, y)]) = some z := hz
    cases qk : keyD x with
    | none => rw [qk] at hz; cases hz
    | some kk =>
      rw [qk] at hz; cases hz
      have g12 := g1.trans g2
      obtain ⟨b1, rfl, eb⟩ := key_at (s1.mono g2.ee) qk
      have gg := (g12.off n fun z => z)
      have n2 : E2 D = none := g12.nw D (by rw [upd_same]; simp) n0
      exact ⟨kk, b1, g12.hh.nt upd_same (fun _ z => nomatch z), rfl, g2.eh _ _ eb, k _ E2 _ (gg.wr n n2 (fun z => z) (fun u e => by cases e.symm.trans (g12.hh.nt upd_same fun _ z => nomatch z); exact ⟨fun _ z => (nomatch z), fun _ _ z => nomatch z⟩)) ⟨D, rfl, n, n2, _, upd_same, .cons s2 .nil⟩⟩
/-! ### d[k] = v -/
@[simp] def sPut (i : Nat) (fk fv : Ev) : Sv := fun ρ => match ρ[i]? with
  | some (.ow (.dct kvs)) => rob (fv ρ) ρ fun dv => rob (fk ρ) ρ fun dk => match keyD dk with
    | some k => if kvs.length < lim then .nx (ρ.set i (.ow (.dct (putD kvs k dv)))) else .st
    | none => .st
  | _ => .st
theorem s_put {i : Nat} {pos' : Pos} (hu : X.A.units + 64 < cLine) (ho : PE X x (tVar i)) (hk : PE X a (tD X.K cl W f)) (hv : PE X b (tD X.K cl W g)) (hs : swapsWith b (some (.Subscript x a pos')) pos.line X.env = pure false := by rfl) :
    PS X (.Assign [.Subscript x a pos'] b pos) (tS X.K cl W (sPut i f g)) :=
  PS.imp (ps_dput (by omega) ho hk hv hs) fun D σ H ⟨E0, H0, E, ρ, r, k⟩ => by
    unfold sPut at k
    split at k
    · rename_i kvs hi
      obtain ⟨a1, h1, h2, h3, vs, h4, h5⟩ := r.ow i _ hi
      refine ⟨E0, H0, E, ρ, r, (rob_an r k).imp fun dv k v E1 H1 g1 s1 => ⟨_, h1, E0, H0, E1, ρ, r.grow g1, (rob_an (r.grow g1) (k.up g1.ee)).imp fun dk k w E2 H2 g2 s2 => ?_⟩⟩
      have g := g1.trans g2
      split at k
      · rename_i kk qk
        split at k
        · rename_i hl
          obtain ⟨b1, rfl, eb⟩ := key_at s2 qk
          have r' := r.grow g
          refine ⟨a1, _, rfl, DPut.t (g.hh.nt h4 (fun _ z => nomatch z)) (g.eh _ _ eb) (by rw [h5.length]; exact lim_lt (Nat.le_of_lt hl)), ?_⟩
          exact k σ E2 _ (r'.write hi h1 (o := .dT (putK vs kk v)) (fun z => z) ⟨_, upd_same, (h5.mono g.ee).put (s1.mono g2.ee)⟩) g2.ee
        · exact k.elim
      · exact k.elim
    · exact k.elim
/-! ### xs[i] += e of a list -/
def getL : V → V → Hp → VK → Prop := fun o i H Q => ∃ p xs k v, o = .ref p ∧ i = .int k ∧ 0 ≤ k ∧ H p = some (.lst xs) ∧ xs[k.toNat]? = some v ∧ Q v H
theorem pg_list : PGet X getL := fun pins s σ H o i ov iv Q I ro ri ⟨p, xs, k, v, eo, ei, h0, hp, hv, q⟩ => by
  subst eo ei
  have eo : ov = Value.ref p := ro
  subst eo
  obtain ⟨t, rfl⟩ := ri
  obtain ⟨its, rv, pl, hz⟩ := I.list (SqL.of (K := X.K) hp)
  obtain ⟨u, hu, ru⟩ := rv.get hv
  have lt : k.toNat < its.length := (List.getElem?_eq_some_iff.mp hu).1
  have hl := rv.length
  have hn := line63
  exact wpAny_getItem_list pl.isList h0 (by omega) (by simpa using hu) ⟨v, H, I, ru, q⟩
@[simp] def sAugL (i : Nat) (f g : Ev) : Sv := fun ρ => match ρ[i]? with
  | some (.ow (.lst ds)) => rob (f ρ) ρ fun di => match di with
    | .int k => if 0 ≤ k then (match ds[k.toNat]? with
      | some (.int x) => rob (g ρ) ρ fun de => match de with
        | .int y => .nx (ρ.set i (.ow (.lst (ds.set k.toNat (.int (x + y))))))
        | _ => .st
      | _ => .st) else .st
    | _ => .st
  | _ => .st
theorem ixN_of {n : Nat} {k : Int} (h0 : 0 ≤ k) (h : k.toNat < n) : ixN n k = some k.toNat := by
  unfold ixN
  rw [if_pos h0, if_pos (by omega)]
theorem s_augL {i : Nat} {tpos : Pos} (ho : PE X x (tVar i)) (hi : PE X a (tD X.K cl W f)) (he : PE X b (tD X.K cl W g))
    (ha : ∀ ov iv new, augStore a ov iv new = (do holding [new, ov, iv] (setItem ov iv new); release [new, ov, iv] []; pure .next) := by intros; rfl) :
    PS X (.AugAssign (.Subscript x a tpos) .Add b pos) (tS X.K cl W (sAugL i f g)) :=
  PS.imp (ps_augS ho hi pg_list he ip_add set_list ha) fun D σ H ⟨E0, H0, E, ρ, r, k⟩ => by
    unfold sAugL at k
    split at k
    · rename_i ds hi
      obtain ⟨a1, h1, h2, h3, vs, h4, h5⟩ := r.ow i _ hi
      refine ⟨_, h1, E0, H0, E, ρ, r, (rob_an r k).imp fun di k w E1 H1 g1 s1 => ?_⟩
      split at k
      · rename_i ki
        split at k
        · rename_i h0
          split at k
          · rename_i xi qx
            cases s1
            obtain ⟨u, hu, hd⟩ := h5.get qx
            cases hd
            have lt : ki.toNat < vs.length := (List.getElem?_eq_some_iff.mp hu).1
            refine ⟨a1, vs, ki, _, rfl, rfl, h0, g1.hh.nt h4 (fun _ z => nomatch z), hu, E0, H0, E1, ρ, r.grow g1, (rob_an (r.grow g1) (k.up g1.ee)).imp fun de k y E2 H2 g2 s2 => ?_⟩
            have g := g1.trans g2
            split at k
            · cases s2
              refine ⟨_, _, rfl, rfl, a1, vs, ki, ki.toNat, rfl, rfl, g.hh.nt h4 (fun _ z => nomatch z), ixN_of h0 lt, ?_⟩
              exact k σ E2 _ ((r.grow g).write hi h1 (o := .lst _) (fun z => z) ⟨_, upd_same, (h5.mono g.ee).set (.int _) _⟩) g2.ee
            · exact k.elim
          · exact k.elim
        · exact k.elim
      · exact k.elim
    · exact k.elim
/-! ### {k: v for .. in ..} -/
def goDc (tg : Gv) (f g : Ev) : List Dt → List Sl → DD → Rs DD
  | [], _, acc => .ok acc
  | d :: ds, ρ, acc => match tg d ρ with
    | none => .st
    | some ρ1 => match f ρ1 with
      | .ok k => (match g ρ1 with
        | .ok y => (match keyD k with
          | some kk => goDc tg f g ds ρ (putD acc kk y)
          | none => .st)
        | _ => .st)
      | _ => .st
theorem goDc_cons {tg : Gv} {f g : Ev} {d : Dt} {ds : List Dt} {ρ : List Sl} {acc : DD} : goDc tg f g (d :: ds) ρ acc = match tg d ρ with
    | none => .st
    | some ρ1 => match f ρ1 with
      | .ok k => (match g ρ1 with
        | .ok y => (match keyD k with
          | some kk => goDc tg f g ds ρ (putD acc kk y)
          | none => .st)
        | _ => .st)
      | _ => .st := rfl
@[simp] def cDc (own : List Nat) (src : Av) (tg : Gv) (f g : Ev) : Ev := fun ρ => (src ρ).bind fun ds => if ds.length ≤ lim then (match goDc tg f g ds (fgt own ρ) [] with
  | .ok r => .ok (.dct r)
  | _ => .st) else .st
theorem wipe2 (σ : L2.St) (ws : List Nat) : wipe (wipe σ ws) ws = wipe σ ws := by
  have gen : ∀ (ws us : List Nat), (∀ i ∈ ws, i ∈ us) → ∀ τ : L2.St, wipe (wipe τ ws) us = wipe τ us := by
    intro ws
    induction ws with
    | nil => intro us _ τ; rfl
    | cons j ws ih =>
      intro us hu τ
      show wipe ((wipe τ ws).set j none) us = _
      rw [wipe_set (hu j List.mem_cons_self)]
      exact ih us (fun i hi => hu i (List.mem_cons_of_mem _ hi)) τ
  exact gen ws ws (fun _ h => h) σ
theorem dc_ {src : Av} {vs own : List Nat} {gt : Gv} (hv : ∀ i ∈ vs, i ∈ own) (σ : L2.St) (H : Hp) (Q : VK) (q : tN K cl W (cDc own src gt f g) σ H Q) :
    tDcG (.dT []) putT (tI K cl W src) (tTg K cl vs gt) (tD K cl (fun _ _ _ _ => False) f) (tD K cl (fun _ _ _ _ => False) g) own σ H Q := by
  obtain ⟨E0, H0, E, ρ, r, k⟩ := q
  refine ⟨E0, H0, E, ρ, r, (An.bind k).imp fun ds k J E1 H1 g1 wk L nL => ?_⟩
  obtain ⟨hl, k⟩ := An.ite k
  cases full : goDc gt f g ds (fgt own ρ) [] with
  | st => rw [full] at k; exact k.elim
  | ex n => rw [full] at k; exact k.elim
  | ok out =>
  rw [full] at k
  have r1 := r.grow g1
  have nE1 : E1 L = none := r1.gr.eh.fresh nL
  refine ⟨fun i m H2 => m = ds.length - i ∧ i ≤ ds.length ∧ ∃ E2 acc accD, Gr E1 H1 E2 H2 ∧ E2 L = none ∧ H2 L = some (.dT acc) ∧ DnD K cl E2 acc accD ∧ accD.length ≤ i ∧
    goDc gt f g (ds.drop i) (fgt own ρ) accD = .ok out, ⟨_, rfl, Nat.zero_le _, E1, [], [], (Gr.refl r1.gr.eh).wr nL nE1 (fun z => z) (fun u e => by rw [nL] at e; cases e), nE1, upd_same, .nil, Nat.le_refl _, by rw [List.drop_zero]; exact full⟩, ?_⟩
  rintro i m H2 ⟨rfl, hi, E2, acc, accD, g2, n2, hL, hA, hle, eq⟩
  have r2 := r1.grow g2
  by_cases hlt : i < ds.length
  · refine .inr ⟨wk.go i E2 H2 g2.ee r2.gr.eh hlt, fun H' => ∃ E2 acc accD, Gr E1 H1 E2 H' ∧ E2 L = none ∧ H' L = some (.dT acc) ∧ DnD K cl E2 acc accD ∧ accD.length ≤ i + 1 ∧
      goDc gt f g (ds.drop (i + 1)) (fgt own ρ) accD = .ok out, fun H' n => ⟨_, by omega, rfl, hlt, n⟩, fun y H3 hy => ?_⟩
    obtain ⟨E3, g3, hx⟩ := wk.yld i E2 H2 y H3 _ g2.ee r2.sb hy (List.getElem?_eq_getElem hlt)
    have r3 := (r2.grow g3).wipe own own (fun _ h => h)
    rw [List.drop_eq_getElem_cons hlt, goDc_cons] at eq
    cases z : gt ds[i] (fgt own ρ) with
    | none => rw [z] at eq; cases eq
    | some ρ1 =>
    rw [z] at eq
    dsimp only at eq
    refine ⟨E0, H0, E3, _, _, ρ1, r3, hx, z, fun σ' r4 hw => ⟨by rw [hw own hv, wipe2], E0, H0, E3, ρ1, r4, ?_⟩⟩
    cases zk : f ρ1 with
    | st => rw [zk] at eq; cases eq
    | ex n => rw [zk] at eq; cases eq
    | ok dk =>
    rw [zk] at eq
    dsimp only at eq
    cases zv : g ρ1 with
    | st => rw [zv] at eq; cases eq
    | ex n => rw [zv] at eq; cases eq
    | ok dv =>
    rw [zv] at eq
    dsimp only at eq
    cases zz : keyD dk with
    | none => rw [zz] at eq; cases eq
    | some kk =>
    rw [zz] at eq
    intro v E4 H4 g4 hd4
    refine ⟨E0, H0, E4, ρ1, r4.grow g4, ?_⟩
    rw [zv]
    intro u E5 H5 g5 hd5
    have g25 := (g3.trans g4).trans g5
    have n5 : E5 L = none := g25.nw L (by rw [hL]; simp) n2
    obtain ⟨b1, rfl, eb⟩ := key_at (hd4.mono g5.ee) zz
    refine ⟨_, ⟨acc, kk, b1, rfl, g25.eh _ _ eb, g25.hh.nt hL (fun _ z => nomatch z), by rw [hA.length]; exact lim_lt (by omega), rfl⟩, E5, _, putD accD kk dv, (g2.trans g25).wr nL n5 (fun z => z) (fun u e => by cases e.symm.trans (g25.hh.nt hL fun _ z => nomatch z); exact ⟨fun _ z => (nomatch z), fun _ _ z => nomatch z⟩), n5, upd_same, (hA.mono g25.ee).put hd5, Nat.le_trans (putD_len _ _ _) (by omega), eq⟩
  · have e : i = ds.length := by omega
    subst e
    rw [List.drop_length] at eq
    have eq : Rs.ok accD = Rs.ok out := eq
    cases eq
    exact .inl ⟨wk.stop E2 H2 g2.ee r2.gr.eh, k _ E2 H2 (g1.trans g2) ⟨L, rfl, g1.fresh nL, n2, acc, hL, hA⟩⟩
theorem n_dc {scope : Scope} {own : List (Str × Nat)} {src : Av} {vs : List Nat} {gt : Gv} (hu : X.A.units + 64 < cLine) (hv : ∀ i ∈ vs, i ∈ own.map (·.2)) (hc : X.calm = true) (hN : X.N.Nodup) (hi : PI X tg iter (tI X.K cl W src)) (ok : BlkOk X.N X.env.scope scope own)
    (hg : ∀ (s : Shared) (H : Hp) (C : Addr) (cs : List (Str × Addr)) (fp : List Addr), PG (X.blk s H scope (compEnvC scope cs C X.env) fp) tg (tTg X.K cl vs gt))
    (hk : ∀ (s : Shared) (H : Hp) (C : Addr) (cs : List (Str × Addr)) (fp : List Addr), PE (X.blk s H scope (compEnvC scope cs C X.env) fp) a (tD X.K cl (fun _ _ _ _ => False) f))
    (he : ∀ (s : Shared) (H : Hp) (C : Addr) (cs : List (Str × Addr)) (fp : List Addr), PE (X.blk s H scope (compEnvC scope cs C X.env) fp) b (tD X.K cl (fun _ _ _ _ => False) g)) (hs : ∀ x, foldedSetIterable iter X.env x = pure x := by intro _; rfl) :
    PE X (.DictComp a b [⟨tg, iter, [], 0⟩] scope pos) (tN X.K cl W (cDc (own.map (·.2)) src gt f g)) := PE.imp (pe_dcT (by omega) hc hN hi ok hg hk he hs) (dc_ hv)
/-- y = {..} on one line -/
theorem s_setDc {i : Nat} {n : Str} {py spos : Pos} {scope : Scope} {own : List (Str × Nat)} {src : Av} {vs : List Nat} {gt : Gv} (hu : X.A.units + 64 < cLine) (hv : ∀ i ∈ vs, i ∈ own.map (·.2)) (hc : X.calm = true) (hN : X.N.Nodup) (hy : X.N[i]? = some n) (hyl : X.env.scope.names.lookup n = some .local)
    (hsw : swapsWith (.DictComp a b [⟨tg, iter, [], 0⟩] scope pos) (some (.Name n py)) spos.line X.env = pure true) (hi : PI X tg iter (tI X.K cl W src)) (ok : BlkOk X.N X.env.scope scope own)
    (hg : ∀ (s : Shared) (H : Hp) (C : Addr) (cs : List (Str × Addr)) (fp : List Addr), PG (X.blk s H scope (compEnvC scope cs C X.env) fp) tg (tTg X.K cl vs gt))
    (hk : ∀ (s : Shared) (H : Hp) (C : Addr) (cs : List (Str × Addr)) (fp : List Addr), PE (X.blk s H scope (compEnvC scope cs C X.env) fp) a (tD X.K cl (fun _ _ _ _ => False) f))
    (he : ∀ (s : Shared) (H : Hp) (C : Addr) (cs : List (Str × Addr)) (fp : List Addr), PE (X.blk s H scope (compEnvC scope cs C X.env) fp) b (tD X.K cl (fun _ _ _ _ => False) g)) (hs : ∀ x, foldedSetIterable iter X.env x = pure x := by intro _; rfl) :
    PS X (.Assign [.Name n py] (.DictComp a b [⟨tg, iter, [], 0⟩] scope pos) spos) (tS X.K cl W (sSetN i (cDc (own.map (·.2)) src gt f g))) :=
  PS.imp (ps_setDcT (by omega) hc hN hi ok hg hk he hs hy hyl hsw) fun D σ H ⟨E0, H0, E, ρ, r, k⟩ =>
    dc_ (W := W) hv σ H _ ⟨E0, H0, E, ρ, r, (rob_an r k).imp fun d k v E' H' g s => k _ E' H' (r.setO g s i) g.ee⟩
end
end Dl
namespace Dl
open PySem L2 PyProof.Rows
/-! ### what is sorted: ints, tuples of such -/
inductive SK where
  | num (i : Int) | tup (ks : List SK)
mutual
def eqS : SK → SK → Bool
  | .num i, .num j => decide (i = j)
  | .tup a, .tup b => eqA a b
  | .num _, .tup _ => false
  | .tup _, .num _ => false
def eqA : List SK → List SK → Bool
  | [], [] => true
  | a :: as, b :: bs => eqS a b && eqA as bs
  | _ :: _, [] => false
  | [], _ :: _ => false
end
mutual
theorem eqS_eq : ∀ a b : SK, eqS a b = true → a = b
  | .num i, .num j, h => by simp only [eqS, decide_eq_true_eq] at h; rw [h]
  | .tup a, .tup b, h => by simp only [eqS] at h; rw [eqA_eq a b h]
  | .num _, .tup _, h => by simp [eqS] at h
  | .tup _, .num _, h => by simp [eqS] at h
theorem eqA_eq : ∀ a b : List SK, eqA a b = true → a = b
  | [], [], _ => rfl
  | a :: as, b :: bs, h => by
    simp only [eqA, Bool.and_eq_true] at h
    rw [eqS_eq a b h.1, eqA_eq as bs h.2]
  | _ :: _, [], h => by simp [eqA] at h
  | [], _ :: _, h => by simp [eqA] at h
end
mutual
theorem eqS_self : ∀ a : SK, eqS a a = true
  | .num i => by simp [eqS]
  | .tup a => by simp only [eqS]; exact eqA_self a
theorem eqA_self : ∀ a : List SK, eqA a a = true
  | [] => rfl
  | a :: as => by simp only [eqA, Bool.and_eq_true]; exact ⟨eqS_self a, eqA_self as⟩
end
instance : DecidableEq SK := fun a b => if h : eqS a b = true then .isTrue (eqS_eq a b h) else .isFalse fun e => h (e ▸ eqS_self a)
theorem eqS_no {a b : SK} (h : eqS a b = false) : a ≠ b := fun e => by rw [e, eqS_self] at h; cases h
mutual
def ltS : SK → SK → Bool
  | .num i, .num j => decide (i < j)
  | .num _, .tup _ => true
  | .tup _, .num _ => false
  | .tup a, .tup b => ltA a b
def ltA : List SK → List SK → Bool
  | [], [] => false
  | _ :: _, [] => false
  | [], _ :: _ => true
  | a :: as, b :: bs => if eqS a b = true then ltA as bs else ltS a b
end
theorem ltA_same (a : SK) (as bs : List SK) : ltA (a :: as) (a :: bs) = ltA as bs := by rw [ltA, if_pos (eqS_self a)]
theorem ltA_diff {a b : SK} (h : a ≠ b) (as bs : List SK) : ltA (a :: as) (b :: bs) = ltS a b := by rw [ltA, if_neg fun z => h (eqS_eq a b z)]
mutual
theorem ltS_asym : ∀ a b : SK, ltS a b = true → ltS b a = false
  | .num i, .num j, h => by
    simp only [ltS, decide_eq_true_eq] at h
    simp only [ltS, decide_eq_false_iff_not]; omega
  | .num _, .tup _, _ => by simp [ltS]
  | .tup _, .num _, h => by simp [ltS] at h
  | .tup a, .tup b, h => by simp only [ltS] at h ⊢; exact ltA_asym a b h
theorem ltA_asym : ∀ a b : List SK, ltA a b = true → ltA b a = false
  | [], [], h => by simp [ltA] at h
  | _ :: _, [], h => by simp [ltA] at h
  | [], _ :: _, _ => by simp [ltA]
  | a :: as, b :: bs, h => by
    by_cases q : eqS a b = true
    · have e := eqS_eq a b q
      subst e
      rw [ltA_same] at h ⊢
      exact ltA_asym as bs h
    · have e : a ≠ b := eqS_no (by simpa using q)
      rw [ltA_diff e] at h
      rw [ltA_diff (Ne.symm e)]
      exact ltS_asym a b h
end
mutual
theorem ltS_anti : ∀ a b : SK, ltS a b = false → ltS b a = false → a = b
  | .num i, .num j, h, k => by
    simp only [ltS, decide_eq_false_iff_not] at h k
    rw [show i = j by omega]
  | .num _, .tup _, h, _ => by simp [ltS] at h
  | .tup _, .num _, _, k => by simp [ltS] at k
  | .tup a, .tup b, h, k => by
    simp only [ltS] at h k
    rw [ltA_anti a b h k]
theorem ltA_anti : ∀ a b : List SK, ltA a b = false → ltA b a = false → a = b
  | [], [], _, _ => rfl
  | _ :: _, [], _, k => by simp [ltA] at k
  | [], _ :: _, h, _ => by simp [ltA] at h
  | a :: as, b :: bs, h, k => by
    by_cases q : eqS a b = true
    · have e := eqS_eq a b q
      subst e
      rw [ltA_same] at h k
      rw [ltA_anti as bs h k]
    · have e : a ≠ b := eqS_no (by simpa using q)
      rw [ltA_diff e] at h
      rw [ltA_diff (Ne.symm e)] at k
      exact absurd (ltS_anti a b h k) e
end
mutual
theorem ltS_tr : ∀ a b c : SK, ltS a b = true → ltS b c = true → ltS a c = true
  | .num i, .num j, .num k, h, g => by
    simp only [ltS, decide_eq_true_eq] at h g ⊢; omega
  | .num _, .num _, .tup _, _, _ => by simp [ltS]
  | .num _, .tup _, .num _, _, g => by simp [ltS] at g
  | .num _, .tup _, .tup _, _, _ => by simp [ltS]
  | .tup _, .num _, _, h, _ => by simp [ltS] at h
  | .tup _, .tup _, .num _, _, g => by simp [ltS] at g
  | .tup a, .tup b, .tup c, h, g => by simp only [ltS] at h g ⊢; exact ltA_tr a b c h g
theorem ltA_tr : ∀ a b c : List SK, ltA a b = true → ltA b c = true → ltA a c = true
  | [], [], _, h, _ => by simp [ltA] at h
  | _ :: _, [], _, h, _ => by simp [ltA] at h
  | _, _ :: _, [], _, g => by simp [ltA] at g
  | [], _ :: _, _ :: _, _, _ => by simp [ltA]
  | a :: as, b :: bs, c :: cs, h, g => by
    by_cases p : eqS a b = true
    · have e := eqS_eq a b p
      subst e
      rw [ltA_same] at h
      by_cases q : eqS a c = true
      · have e := eqS_eq a c q
        subst e
        rw [ltA_same] at g ⊢
        exact ltA_tr as bs cs h g
      · have e : a ≠ c := eqS_no (by simpa using q)
        rw [ltA_diff e] at g ⊢
        exact g
    · have n : a ≠ b := eqS_no (by simpa using p)
      rw [ltA_diff n] at h
      by_cases q : eqS b c = true
      · have e := eqS_eq b c q
        subst e
        rw [ltA_diff n]; exact h
      · have n2 : b ≠ c := eqS_no (by simpa using q)
        rw [ltA_diff n2] at g
        have r := ltS_tr a b c h g
        have n3 : a ≠ c := fun e => by
          subst e
          have := ltS_asym a b h
          rw [g] at this; cases this
        rw [ltA_diff n3]; exact r
end
theorem ltS_irr (a : SK) : ltS a a = false := by
  cases q : ltS a a with
  | false => rfl
  | true => have := ltS_asym a a q; rw [q] at this; cases this
theorem swo_S : SrtO.Swo ltS where
  asym := ltS_asym
  tr := fun x y z h1 h2 => by
    cases q : ltS z x with
    | false => rfl
    | true =>
      exfalso
      by_cases p : ltS x y = true
      · have := ltS_tr z x y q p; rw [h2] at this; cases this
      · have e := ltS_anti x y (by simpa using p) h1
        subst e; rw [h2] at q; cases q
theorem swo_on {α : Type} (k : α → SK) : SrtO.Swo fun v u => ltS (k v) (k u) := ⟨fun x y => swo_S.asym _ _, fun x y z => swo_S.tr _ _ _⟩
/-! ### the same shape, place by place -/
mutual
def sameK : SK → SK → Bool
  | .num _, .num _ => true
  | .tup a, .tup b => sameA a b
  | _, _ => false
def sameA : List SK → List SK → Bool
  | a :: as, b :: bs => sameK a b && sameA as bs
  | _, _ => true
end
mutual
def dpK : SK → Nat
  | .num _ => 0
  | .tup ks => dpA ks + 1
def dpA : List SK → Nat
  | [] => 0
  | k :: ks => max (dpK k) (dpA ks)
end
mutual
/-- the value v in the heap h is k -/
inductive SIs (h : Heap) : SK → Value → Prop
  | num (i : Int) (t : Tok) : SIs h (.num i) (.int i t)
  | tup {a : Addr} {o : Obj} {vs : Array Value} {n : Nat} {ks : List SK} (ho : h.get? a = some o) (hc : o.cls = .type "tuple") (hd : o.data = .seq vs n) (r : SAll h ks vs.toList) : SIs h (.tup ks) (.ref a)
inductive SAll (h : Heap) : List SK → List Value → Prop
  | nil : SAll h [] []
  | cons {k : SK} {v : Value} {ks : List SK} {vs : List Value} (x : SIs h k v) (r : SAll h ks vs) : SAll h (k :: ks) (v :: vs)
end
mutual
theorem SIs.at {h h' : Heap} (hk : ∀ a o, h.get? a = some o → o.cls = .type "tuple" → h'.get? a = some o) : ∀ {k : SK} {v : Value}, SIs h k v → SIs h' k v
  | .num i, _, x => by cases x; exact .num _ _
  | .tup ks, _, x => by
    cases x with
    | tup ho hc hd r => exact .tup (hk _ _ ho hc) hc hd (SAll.at hk r)
theorem SAll.at {h h' : Heap} (hk : ∀ a o, h.get? a = some o → o.cls = .type "tuple" → h'.get? a = some o) : ∀ {ks : List SK} {vs : List Value}, SAll h ks vs → SAll h' ks vs
  | [], _, x => by cases x; exact .nil
  | k :: ks, _, x => by
    cases x with
    | cons x r => exact .cons (SIs.at hk x) (SAll.at hk r)
end
mutual
theorem SIs.inj {h : Heap} : ∀ {k j : SK} {v : Value}, SIs h k v → SIs h j v → k = j
  | .num i, _, _, x, y => by cases x; cases y; rfl
  | .tup ks, _, _, x, y => by
    cases x with
    | tup ho hc hd r =>
      cases y with
      | tup ho' hc' hd' r' =>
        rw [ho] at ho'; cases ho'
        rw [hd] at hd'; cases hd'
        rw [SAll.inj r r']
theorem SAll.inj {h : Heap} : ∀ {ks js : List SK} {vs : List Value}, SAll h ks vs → SAll h js vs → ks = js
  | [], _, _, x, y => by cases x; cases y; rfl
  | k :: ks, _, _, x, y => by
    cases x with
    | cons x r =>
      cases y with
      | cons y r' => rw [SIs.inj x y, SAll.inj r r']
end
theorem SAll.length {h : Heap} : ∀ {ks : List SK} {vs : List Value}, SAll h ks vs → vs.length = ks.length
  | [], _, x => by cases x; rfl
  | k :: ks, _, x => by
    cases x with
    | cons x r => simp [SAll.length r]
theorem SAll.get {h : Heap} : ∀ {ks : List SK} {vs : List Value} {j : Nat} (x : SAll h ks vs) (h1 : j < vs.length), SIs h (ks.getD j (.num 0)) vs[j]
  | k :: ks, _, 0, x, h1 => by
    cases x with
    | cons x r => exact x
  | k :: ks, _, j + 1, x, h1 => by
    cases x with
    | cons x r => simpa using SAll.get r (by simpa using h1)
  | [], _, j, x, h1 => by cases x; simp at h1
/-! as a key of the library -/
mutual
def nkS : SK → NestedKey
  | .num i => .num i
  | .tup ks => .tup (nkA ks)
def nkA : List SK → List NestedKey
  | [] => []
  | k :: ks => nkS k :: nkA ks
end
mutual
theorem nk_beq : ∀ a b : SK, NestedKey.beq (nkS a) (nkS b) = eqS a b
  | .num i, .num j => rfl
  | .num _, .tup _ => rfl
  | .tup _, .num _ => rfl
  | .tup a, .tup b => by simp only [nkS, NestedKey.beq, eqS]; exact nkA_beq a b
theorem nkA_beq : ∀ a b : List SK, NestedKey.beqAll (nkA a) (nkA b) = eqA a b
  | [], [] => rfl
  | _ :: _, [] => by simp [nkA, NestedKey.beqAll, eqA]
  | [], _ :: _ => by simp [nkA, NestedKey.beqAll, eqA]
  | a :: as, b :: bs => by simp only [nkA, NestedKey.beqAll, eqA, nk_beq a b, nkA_beq as bs]
end
mutual
theorem nk_depth : ∀ a : SK, (nkS a).depth = dpK a
  | .num _ => rfl
  | .tup ks => by simp only [nkS, NestedKey.depth, dpK, nkA_depth ks]
theorem nkA_depth : ∀ a : List SK, NestedKey.depthAll (nkA a) = dpA a
  | [] => rfl
  | k :: ks => by simp only [nkA, NestedKey.depthAll, dpA, nk_depth k, nkA_depth ks]
end
mutual
theorem SIs.nest {h : Heap} : ∀ {k : SK} {v : Value}, SIs h k v → NestedIs h (nkS k) v
  | .num i, _, x => by cases x; exact .int _ _
  | .tup ks, _, x => by
    cases x with
    | tup ho hc hd r => exact .tup ho hc hd (SAll.nest r)
theorem SAll.nest {h : Heap} : ∀ {ks : List SK} {vs : List Value}, SAll h ks vs → NestedAll h (nkA ks) vs
  | [], _, x => by cases x; exact .nil
  | k :: ks, _, x => by
    cases x with
    | cons x r => exact .cons (SIs.nest x) (SAll.nest r)
end
theorem eqS_at {A : Around} {s : Shared} {x y : SK} {a b : Value} (ra : SIs s.heap x a) (rb : SIs s.heap y b) (hu : A.units + min (dpK x) (dpK y) < cLine) : SeqAt.EqAt A s a b (eqS x y) := by
  rw [← nk_beq]
  exact eqAt_key _ _ A s a b ra.nest rb.nest (by rw [nk_depth, nk_depth]; exact hu)
theorem dpA_get : ∀ (ks : List SK) (j : Nat), dpK (ks.getD j (.num 0)) ≤ dpA ks
  | [], j => by simp [dpK]
  | k :: ks, 0 => by simp only [List.getD_cons_zero, dpA]; omega
  | k :: ks, j + 1 => by
    have := dpA_get ks j
    simp only [List.getD_cons_succ, dpA]; omega
theorem lexS : ∀ (as bs : List SK), Ob.lexAt (fun j => eqS (as.getD j (.num 0)) (bs.getD j (.num 0))) (fun j => ltS (as.getD j (.num 0)) (bs.getD j (.num 0))) (decide (as.length < bs.length)) 0 (min as.length bs.length) = ltA as bs
  | [], [] => by simp [ltA, Ob.lexAt]
  | _ :: _, [] => by simp [ltA, Ob.lexAt]
  | [], b :: bs => by simp [ltA, Ob.lexAt]
  | a :: as, b :: bs => by
    have ih := lexS as bs
    simp only [List.length_cons, Nat.add_min_add_right, Ob.lexAt_succ, Nat.add_lt_add_iff_right]
    rw [lex_shift]
    simp only [List.getD_cons_zero, List.getD_cons_succ, ltA]
    rw [ih]
theorem sameA_get : ∀ (as bs : List SK) (j : Nat), sameA as bs = true → j < as.length → j < bs.length → sameK (as.getD j (.num 0)) (bs.getD j (.num 0)) = true
  | a :: as, b :: bs, 0, h, _, _ => by simp only [sameA, Bool.and_eq_true] at h; exact h.1
  | a :: as, b :: bs, j + 1, h, h1, h2 => by
    simp only [sameA, Bool.and_eq_true] at h
    simpa using sameA_get as bs j h.2 (by simpa using h1) (by simpa using h2)
  | [], _, j, _, h1, _ => by simp at h1
  | _ :: _, [], j, _, _, h2 => by simp at h2
theorem ltS_at (n : Nat) : ∀ {A : Around} {s : Shared} {x y : SK} {a b : Value}, dpK x ≤ n → SIs s.heap x a → SIs s.heap y b → sameK x y = true → A.units + n < cLine → Ob.RcOp .Lt A s a b (ltS x y) := by
  induction n with
  | zero =>
    intro A s x y a b hd ra rb hs hu
    cases x with
    | num i =>
      cases y with
      | num j => cases ra; cases rb; exact Ob.RcOp.lt_int _ _ _ _
      | tup ks => cases hs
    | tup ks => simp [dpK] at hd
  | succ n ih =>
    intro A s x y a b hd ra rb hs hu
    cases x with
    | num i =>
      cases y with
      | num j => cases ra; cases rb; exact Ob.RcOp.lt_int _ _ _ _
      | tup ks => cases hs
    | tup as =>
      cases y with
      | num j => cases hs
      | tup bs =>
        cases ra with
        | @tup p o vs _ _ h1 h2 h3 h4 =>
          cases rb with
          | @tup p' o' ws _ _ k1 k2 k3 k4 =>
            have n1 : vs.size = as.length := by rw [← Array.length_toList]; exact h4.length
            have n2 : ws.size = bs.length := by rw [← Array.length_toList]; exact k4.length
            have hd : dpA as ≤ n := by simp only [dpK] at hd; omega
            have hs : sameA as bs = true := hs
            have R := Ob.RcOp.tuples_lt (A := A) (s := s) (e := fun j => eqS (as.getD j (.num 0)) (bs.getD j (.num 0))) (r := fun j => ltS (as.getD j (.num 0)) (bs.getD j (.num 0)))
              (show s.heap.IsTuple p vs from ⟨_, h1, h2, _, h3⟩) (show s.heap.IsTuple p' ws from ⟨_, k1, k2, _, k3⟩) (by omega)
              (fun j j1 j2 => by
                have e1 := h4.get (j := j) (by simpa using j1)
                have e2 := k4.get (j := j) (by simpa using j2)
                have d1 := dpA_get as j
                have z : A.in1.units = A.units + 1 := Around.in1_units A
                have := eqS_at (A := A.in1) (s := s) e1 e2 (by rw [z]; omega)
                simpa using this)
              (fun j j1 j2 _ => by
                have e1 := h4.get (j := j) (by simpa using j1)
                have e2 := k4.get (j := j) (by simpa using j2)
                have d1 := dpA_get as j
                have z : A.in1.units = A.units + 1 := Around.in1_units A
                have := ih (A := A.in1) (s := s) (by omega) e1 e2 (sameA_get as bs j hs (by rw [← n1]; exact j1) (by rw [← n2]; exact j2)) (by rw [z]; omega)
                simpa using this)
            rw [n1, n2, lexS] at R
            exact R
end Dl
namespace Dl
open PySem L2 PyProof.Rows SrtO Srt
/-! ### one sorted order -/
def insB {α : Type} (lt : α → α → Bool) (x : α) : List α → List α
  | [] => [x]
  | y :: ys => if lt x y = true then x :: y :: ys else y :: insB lt x ys
def srtB {α : Type} (lt : α → α → Bool) : List α → List α
  | [] => []
  | x :: xs => insB lt x (srtB lt xs)
section
variable {α : Type} {lt : α → α → Bool}
theorem insB_perm (x : α) : ∀ ys : List α, (insB lt x ys).Perm (x :: ys)
  | [] => List.Perm.refl _
  | y :: ys => by
    unfold insB
    split
    · exact List.Perm.refl _
    · exact ((insB_perm x ys).cons y).trans (List.Perm.swap x y ys)
theorem srtB_perm : ∀ xs : List α, (srtB lt xs).Perm xs
  | [] => List.Perm.refl _
  | x :: xs => (insB_perm x _).trans ((srtB_perm xs).cons x)
theorem insB_srtd (O : Swo lt) (x : α) : ∀ {ys : List α}, Srtd lt ys → Srtd lt (insB lt x ys)
  | [], _ => srtd_one x
  | y :: ys, h => by
    unfold insB
    split
    · rename_i q
      exact List.pairwise_cons.mpr ⟨fun z hz => O.asym x z (O.lt_all h q z hz), h⟩
    · rename_i q
      have q : lt x y = false := by simpa using q
      refine List.pairwise_cons.mpr ⟨fun z hz => ?_, insB_srtd O x (List.pairwise_cons.mp h).2⟩
      rcases List.mem_cons.mp ((insB_perm x ys).mem_iff.mp hz) with rfl | hz
      · exact q
      · exact srtd_head h z hz
theorem srtB_srtd (O : Swo lt) : ∀ xs : List α, Srtd lt (srtB lt xs)
  | [] => List.Pairwise.nil
  | x :: xs => insB_srtd O x (srtB_srtd O xs)
/-- two sorted arrangements of the same, where what no test tells apart is one -/
theorem srt_one (O : Swo lt) : ∀ {l m : List α}, Srtd lt l → Srtd lt m → l.Perm m → (∀ x ∈ l, ∀ y ∈ l, lt x y = false → lt y x = false → x = y) → l = m
  | [], m, _, _, p, _ => (List.Perm.eq_nil p.symm).symm
  | x :: l, [], _, _, p, _ => absurd p.length_eq (by simp)
  | x :: l, y :: m, hl, hm, p, an => by
    have hy : y ∈ x :: l := p.mem_iff.mpr List.mem_cons_self
    have h1 : lt x y = false := by
      rcases List.mem_cons.mp (p.mem_iff.mp (List.mem_cons_self (a := x) (l := l))) with e | hx
      · rw [e]; exact O.refl y
      · exact srtd_head hm x hx
    have h2 : lt y x = false := by
      rcases List.mem_cons.mp hy with e | hy
      · rw [e]; exact O.refl x
      · exact srtd_head hl y hy
    have e := an x List.mem_cons_self y hy h1 h2
    subst e
    rw [srt_one O (List.pairwise_cons.mp hl).2 (List.pairwise_cons.mp hm).2 ((List.perm_cons x).mp p) fun a ha b hb => an a (List.mem_cons_of_mem _ ha) b (List.mem_cons_of_mem _ hb)]
end
/-! ### lists of keys that may be sorted -/
def isNum : SK → Bool
  | .num _ => true
  | _ => false
def isRow : SK → Bool
  | .tup (_ :: _) => true
  | _ => false
def okK (ks : List SK) : Bool := ks.all isNum || (ks.all isRow && ks.all (fun a => ks.all fun b => sameK a b) && ks.all fun a => decide (dpK a ≤ 8))
noncomputable def kf (h : Heap) (v : Value) : SK := by
  classical
  exact if q : ∃ k, SIs h k v then q.choose else .num 0
theorem kf_of {h : Heap} {k : SK} {v : Value} (x : SIs h k v) : kf h v = k := by
  unfold kf
  have q : ∃ k, SIs h k v := ⟨k, x⟩
  rw [dif_pos q]
  exact q.choose_spec.inj x
theorem SAll.mem {h : Heap} : ∀ {ks : List SK} {vs : List Value} {v : Value}, SAll h ks vs → v ∈ vs → ∃ k ∈ ks, SIs h k v
  | [], _, _, x, m => by cases x; cases m
  | k :: ks, _, v, x, m => by
    cases x with
    | cons x r =>
      rcases List.mem_cons.mp m with rfl | m
      · exact ⟨k, List.mem_cons_self, x⟩
      · obtain ⟨j, h1, h2⟩ := SAll.mem r m
        exact ⟨j, List.mem_cons_of_mem _ h1, h2⟩
theorem SAll.kf {h : Heap} : ∀ {ks : List SK} {vs : List Value}, SAll h ks vs → vs.map (kf h) = ks
  | [], _, x => by cases x; rfl
  | k :: ks, _, x => by
    cases x with
    | cons x r => rw [List.map_cons, kf_of x, SAll.kf r]
section
variable {prog : Program} {w : World} {A : Around} {EE : Value → Shared → Prop} {s : Shared}
theorem kat_keys {b : Bool} {fin : Bool} {Q : Bool → Shared → Prop} : ∀ (as bs : List SK) (us ws : List Value) (i : Nat), SAll s.heap as us → SAll s.heap bs ws → sameA as bs = true → dpA as ≤ 8 → A.units + 8 < cLine →
    (b = true → i = 0 → ∀ p ∈ as.head?, isNum p = true) → (fin = decide (as.length < bs.length)) → Q (ltA as bs) s → W.KatLex prog w A b fin Q (us.zip ws) i s
  | [], [], us, ws, i, ra, rb, _, _, _, _, hf, q => by
    cases ra; cases rb
    exact W.kat_nil (by subst hf; simpa [ltA] using q)
  | [], b0 :: bs, us, ws, i, ra, rb, _, _, _, _, hf, q => by
    cases ra
    exact W.kat_nil (by subst hf; simpa [ltA] using q)
  | a :: as, [], us, ws, i, ra, rb, _, _, _, _, hf, q => by
    cases rb
    rw [List.zip_nil_right]
    exact W.kat_nil (by subst hf; simpa [ltA] using q)
  | a :: as, c :: bs, us, ws, i, ra, rb, hs, hd, hu, h0, hf, q => by
    cases ra with
    | @cons _ u _ us x ra =>
      cases rb with
      | @cons _ v _ ws y rb =>
        simp only [sameA, Bool.and_eq_true] at hs
        simp only [dpA] at hd
        rw [List.zip_cons_cons]
        refine W.kat_cons (eqS_at x y (by omega) prog w _ _ ?_)
        refine W.kat_go (fun e => ?_) (fun e => ?_)
        · have e' := eqS_eq a c e
          subst e'
          rw [ltA_same] at q
          exact W.kat_yes (kat_keys as bs us ws (i + 1) ra rb hs.2 (by omega) hu (fun _ z => by omega) (by rw [hf]; simp) q)
        · rw [ltA_diff (eqS_no e)] at q
          refine W.kat_no ?_
          by_cases z : (b && i == 0) = true
          · rw [z]
            rw [Bool.and_eq_true] at z
            have n := h0 z.1 (by simpa using z.2) a (by simp)
            cases a with
            | tup _ => cases n
            | num m =>
              cases c with
              | tup _ => cases hs.1
              | num m2 =>
                cases x; cases y
                exact oneLt_int q
          · rw [show (b && i == 0) = false by simpa using z]
            exact W.kat_one _ _ (ltS_at 8 (by omega) x y hs.1 (by omega) prog w _ _ q)
theorem keys_ints {h : Heap} : ∀ {ks : List SK} {vs : List Value}, SAll h ks vs → ks.all isNum = true → ∃ ns, IntsAre vs ns
  | [], _, x, _ => by cases x; exact ⟨[], .nil⟩
  | k :: ks, _, x, e => by
    cases x with
    | cons x r =>
      simp only [List.all_cons, Bool.and_eq_true] at e
      obtain ⟨ns, q⟩ := keys_ints r e.2
      cases x with
      | num i t => exact ⟨i :: ns, .cons i t q⟩
      | tup _ _ _ _ => exact absurd e.1 (by simp [isNum])
theorem keys_firsts {h : Heap} : ∀ {ks : List SK} {vs : List Value}, SAll h ks vs → ks.all isRow = true → ∃ fs : List Value, W.KatTups h vs fs ∧ fs.length = vs.length ∧ ∀ f ∈ fs, ∃ k0 r, SK.tup (k0 :: r) ∈ ks ∧ SIs h k0 f
  | [], _, x, _ => by cases x; exact ⟨[], W.KatTups.nil, rfl, fun _ m => by cases m⟩
  | k :: ks, _, x, e => by
    cases x with
    | cons x r =>
      simp only [List.all_cons, Bool.and_eq_true] at e
      obtain ⟨fs, h1, h2, h3⟩ := keys_firsts r e.2
      cases x with
      | num i t => exact absurd e.1 (by simp [isRow])
      | @tup a o vs n ks' ho hc hd r' =>
        cases ks' with
        | nil => exact absurd e.1 (by simp [isRow])
        | cons k0 kr =>
          have hv : ∃ f fr, vs.toList = f :: fr ∧ SIs h k0 f := by
            revert r'
            cases vs.toList with
            | nil => intro r'; cases r'
            | cons f fr => intro r'; cases r' with
              | cons y _ => exact ⟨f, fr, rfl, y⟩
          obtain ⟨f, fr, ev, y⟩ := hv
          refine ⟨f :: fs, W.KatTups.cons ho hc hd (by rw [← Array.getElem?_toList, ev]; rfl) h1, by simp [h2], fun g m => ?_⟩
          rcases List.mem_cons.mp m with rfl | m
          · exact ⟨k0, kr, List.mem_cons_self, y⟩
          · obtain ⟨j, r2, m1, m2⟩ := h3 g m
            exact ⟨j, r2, List.mem_cons_of_mem _ m1, m2⟩
theorem keys_cmp {ks : List SK} {vs : List Value} {b : Bool} (r : SAll s.heap ks vs) (rows : ks.all isRow = true) (same : ks.all (fun a => ks.all fun b => sameK a b) = true) (deep : ks.all (fun a => decide (dpK a ≤ 8)) = true) (hu : A.units + 8 < cLine)
    (hb : b = true → ∀ k0 r, SK.tup (k0 :: r) ∈ ks → isNum k0 = true) : Cmp prog w A s (tuples' b) (fun p => p.1 ∈ vs) (lt2 fun v u => ltS (kf s.heap v) (kf s.heap u)) := by
  intro p q hm hm'
  obtain ⟨x, mx, ix⟩ := r.mem hm
  obtain ⟨y, my, iy⟩ := r.mem hm'
  show wpAny (model prog w) A (keyLt' (tuples' b) p.1 q.1) (fun r s' => s' = s ∧ r = ltS (kf s.heap p.1) (kf s.heap q.1)) (fun _ _ => False) s
  rw [kf_of ix, kf_of iy]
  have hr := List.all_eq_true.mp rows
  have hsx := List.all_eq_true.mp (List.all_eq_true.mp same x mx) y my
  have hdx := of_decide_eq_true (List.all_eq_true.mp deep x mx)
  generalize p.1 = u at ix ⊢
  generalize q.1 = v at iy ⊢
  cases ix with
  | num i t => exact absurd (hr _ mx) (by simp [isRow])
  | @tup a o us n as ho hc hd ra =>
    cases iy with
    | num i t => exact absurd (hr _ my) (by simp [isRow])
    | @tup a' o' ws n' bs ho' hc' hd' rb =>
      refine W.kat_lt ho hd ho' hd' (kat_keys as bs us.toList ws.toList 0 ra rb hsx (by simp only [dpK] at hdx; omega) hu (fun z _ k0 hk => ?_) ?_ ⟨rfl, rfl⟩)
      · cases as with
        | nil => simp at hk
        | cons a0 as => simp at hk; subst hk; exact hb z a0 as mx
      · rw [← ra.length, ← rb.length]; simp
theorem SAll.keep {h h' : Heap} {a : Addr} {ks : List SK} {vs : List Value} (r : SAll h ks vs) (keep : ∀ b o, b ≠ a → h.get? b = some o → h'.get? b = some o) (ha : ∀ o, h.get? a = some o → o.cls ≠ .type "tuple") : SAll h' ks vs :=
  r.at fun b o e c => keep b o (fun z => by subst z; exact ha o e c) e
theorem keys_sortable {a : Addr} {ks : List SK} {vs : List Value} (r : SAll s.heap ks vs) (h2 : 2 ≤ vs.length) (ok : okK ks = true) (hu : A.units + 8 < cLine) (ha : ∀ o, s.heap.get? a = some o → o.cls ≠ .type "tuple") :
    SortableO prog w A s a vs fun v u => ltS (kf s.heap v) (kf s.heap u) := by
  intro h' keep
  have r' : SAll h' ks vs := r.keep keep ha
  have same_k : ∀ v ∈ vs, kf h' v = kf s.heap v := fun v m => by
    obtain ⟨k, mk, ik⟩ := r.mem m
    have ik' : SIs h' k v := SIs.at (fun b o e c => keep b o (fun z => by subst z; exact ha o e c) e) ik
    rw [kf_of ik, kf_of ik']
  have conv : ∀ {κ : SortKind}, Cmp prog w A { s with heap := h' } κ (fun p => p.1 ∈ vs) (lt2 fun v u => ltS (kf h' v) (kf h' u)) → Cmp prog w A { s with heap := h' } κ (fun p => p.1 ∈ vs) (lt2 fun v u => ltS (kf s.heap v) (kf s.heap u)) := fun c p q hm hm' =>
    wpAny_mono (c p q hm hm') (fun b s' z => ⟨z.1, by rw [z.2]; show ltS (kf h' p.1) (kf h' q.1) = _; rw [same_k _ hm, same_k _ hm']⟩) fun _ _ e => e
  unfold okK at ok
  rw [Bool.or_eq_true, Bool.and_eq_true, Bool.and_eq_true] at ok
  rcases ok with nums | ⟨⟨rows, same⟩, deep⟩
  · obtain ⟨ns, hI⟩ := keys_ints r' nums
    refine ⟨oneType', fun Q E hq => ?_, conv fun p q hm hm' => ?_⟩
    · match vs, hI, h2 with
      | v1 :: v2 :: rest, hI, _ =>
        rw [keyKind_ints hI]
        exact wpAny_pure hq
      | [], _, h => exact absurd h (by decide)
      | [v], _, h => exact absurd h (by simp)
    · obtain ⟨x, mx, ix⟩ := r'.mem hm
      obtain ⟨y, my, iy⟩ := r'.mem hm'
      have nx := List.all_eq_true.mp nums x mx
      have ny := List.all_eq_true.mp nums y my
      show wpAny (model prog w) A (keyLt' oneType' p.1 q.1) (fun r s' => s' = { s with heap := h' } ∧ r = ltS (kf h' p.1) (kf h' q.1)) (fun _ _ => False) { s with heap := h' }
      rw [kf_of ix, kf_of iy]
      cases x with
      | tup _ => cases nx
      | num i =>
        cases y with
        | tup _ => cases ny
        | num j =>
          generalize p.1 = u at ix ⊢
          generalize q.1 = v at iy ⊢
          cases ix; cases iy
          rw [keyLt'_oneType]
          exact oneLt_int ⟨rfl, rfl⟩
  · obtain ⟨fs, t, hl, hf⟩ := keys_firsts r' rows
    have hne : 0 < fs.length := by omega
    obtain ⟨f0, fr, ef⟩ : ∃ f0 fr, fs = f0 :: fr := by
      match fs, hne with
      | f0 :: fr, _ => exact ⟨f0, fr, rfl⟩
    obtain ⟨k0, kr, m0, i0⟩ := hf f0 (by rw [ef]; exact List.mem_cons_self)
    have all_same : ∀ k1 r1, SK.tup (k1 :: r1) ∈ ks → sameK k0 k1 = true := fun k1 r1 m1 => by
      have z := List.all_eq_true.mp (List.all_eq_true.mp same _ m0) _ m1
      simp only [sameK, sameA, Bool.and_eq_true] at z
      exact z.1
    cases k0 with
    | num i =>
      have hn : ∀ k1 r1, SK.tup (k1 :: r1) ∈ ks → isNum k1 = true := fun k1 r1 m1 => by
        have z := all_same k1 r1 m1
        cases k1 with
        | num _ => rfl
        | tup _ => cases z
      refine ⟨tuples' true, fun Q E hq => ?_, conv (keys_cmp r' rows same deep hu fun _ => hn)⟩
      refine W.kat_kind (T := .type "int") t hne (fun f m => ?_) (by rfl) ?_
      · obtain ⟨k1, r1, m1, i1⟩ := hf f m
        have z := hn k1 r1 m1
        cases i1 with
        | num j t => exact W.Looks.now
        | tup _ _ _ _ => cases z
      · rw [show (Value.type "int" != Value.type "tuple") = true by first | decide +kernel | rfl]
        exact hq
    | tup q0 =>
      have hn : ∀ k1 r1, SK.tup (k1 :: r1) ∈ ks → isNum k1 = false := fun k1 r1 m1 => by
        have z := all_same k1 r1 m1
        cases k1 with
        | num _ => cases z
        | tup _ => rfl
      refine ⟨tuples' false, fun Q E hq => ?_, conv (keys_cmp r' rows same deep hu fun z => nomatch z)⟩
      refine W.kat_kind (T := .type "tuple") t hne (fun f m => ?_) (by rfl) ?_
      · obtain ⟨k1, r1, m1, i1⟩ := hf f m
        have z := hn k1 r1 m1
        cases i1 with
        | num j t => cases z
        | @tup a1 o1 _ _ _ ho hc _ _ =>
          rw [← hc]
          exact (W.Looks.ld ho).andThen .now
      · rw [show (Value.type "tuple" != Value.type "tuple") = false by first | decide +kernel | rfl]
        exact hq
end
end Dl
namespace Dl
open PySem L2 PyProof.Rows SrtO Srt
mutual
def skD : Dt → Option SK
  | .int i => some (.num i)
  | .tup ds => (skA ds).map .tup
  | .non => none
  | .bl _ => none
  | .str _ => none
  | .lst _ => none
  | .dct _ => none
  | .obj _ _ => none
  | .scr _ => none
  | .cst _ => none
def skA : List Dt → Option (List SK)
  | [] => some []
  | d :: ds => match skD d, skA ds with
    | some k, some ks => some (k :: ks)
    | _, _ => none
end
mutual
/-- back -/
def dtS : SK → Dt
  | .num i => .int i
  | .tup ks => .tup (dtA ks)
def dtA : List SK → List Dt
  | [] => []
  | k :: ks => dtS k :: dtA ks
end
mutual
theorem skD_eq : ∀ {d : Dt} {k : SK}, skD d = some k → d = dtS k
  | .int i, _, h => by simp only [skD, Option.some.injEq] at h; subst h; rfl
  | .tup ds, _, h => by
    simp only [skD] at h
    cases q : skA ds with
    | none => rw [q] at h; cases h
    | some ks => rw [q] at h; cases h; rw [dtS, skA_eq q]
  | .non, _, h => by simp [skD] at h
  | .bl _, _, h => by simp [skD] at h
  | .str _, _, h => by simp [skD] at h
  | .lst _, _, h => by simp [skD] at h
  | .dct _, _, h => by simp [skD] at h
  | .obj _ _, _, h => by simp [skD] at h
  | .scr _, _, h => by simp [skD] at h
  | .cst _, _, h => by simp [skD] at h
theorem skA_eq : ∀ {ds : List Dt} {ks : List SK}, skA ds = some ks → ds = dtA ks
  | [], _, h => by simp only [skA, Option.some.injEq] at h; subst h; rfl
  | d :: ds, _, h => by
    simp only [skA] at h
    cases q : skD d with
    | none => rw [q] at h; cases h
    | some k =>
      cases q2 : skA ds with
      | none => rw [q, q2] at h; cases h
      | some ks => rw [q, q2] at h; cases h; rw [dtA, ← skD_eq q, ← skA_eq q2]
end
mutual
theorem sk_dt : ∀ k : SK, skD (dtS k) = some k
  | .num i => rfl
  | .tup ks => by simp only [dtS, skD, skA_dt ks, Option.map_some]
theorem skA_dt : ∀ ks : List SK, skA (dtA ks) = some ks
  | [] => rfl
  | k :: ks => by simp only [dtA, skA, sk_dt k, skA_dt ks]
end
theorem skA_mem : ∀ {ds : List Dt} {ks : List SK} {d : Dt}, skA ds = some ks → d ∈ ds → ∃ k ∈ ks, skD d = some k
  | [], _, _, _, m => by cases m
  | e :: ds, ks, d, h, m => by
    simp only [skA] at h
    cases q : skD e with
    | none => rw [q] at h; cases h
    | some k =>
      cases q2 : skA ds with
      | none => rw [q, q2] at h; cases h
      | some ks' =>
        rw [q, q2] at h; cases h
        rcases List.mem_cons.mp m with rfl | m
        · exact ⟨k, List.mem_cons_self, q⟩
        · obtain ⟨j, h1, h2⟩ := skA_mem q2 m
          exact ⟨j, List.mem_cons_of_mem _ h1, h2⟩
def skG (d : Dt) : SK := (skD d).getD (.num 0)
theorem skG_of {d : Dt} {k : SK} (h : skD d = some k) : skG d = k := by unfold skG; rw [h]; rfl
/-- less, as what is sorted is -/
def ltD (d e : Dt) : Bool := ltS (skG d) (skG e)
theorem swo_D : Swo ltD := swo_on skG
def okD (ds : List Dt) : Bool := match skA ds with
  | some ks => okK ks
  | none => false
section
variable {K : PySem.W.Frag} {cl : Str → Addr} {X : Cx}
mutual
theorem sis_of {pins : List (Addr × Obj)} {σ : L2.St} {E H : Hp} {s : Shared} (I : Inv X pins σ H s) (hE : Sub E H) : ∀ {k : SK} {v : V} {u : Value}, Dn K cl E v (dtS k) → RelV v u → SIs s.heap k u
  | .num i, _, _, h, r => by
    cases h
    obtain ⟨t, rfl⟩ := r
    exact .num i t
  | .tup ks, _, _, h, r => by
    cases h with
    | @tup a vs _ hp hr =>
      have eu : _ = Value.ref a := r
      subst eu
      obtain ⟨_, its, rv, o, h1, h2, n, h3⟩ := (show ObjOk X.prog X.w H s.heap a (.tup vs) from I.hok a _ (hE _ _ hp))
      exact .tup h1 h2 h3 (by simpa using sall_of I hE hr rv)
theorem sall_of {pins : List (Addr × Obj)} {σ : L2.St} {E H : Hp} {s : Shared} (I : Inv X pins σ H s) (hE : Sub E H) : ∀ {ks : List SK} {vs : List V} {us : List Value}, DnA K cl E vs (dtA ks) → Vals vs us → SAll s.heap ks us
  | [], _, _, h, r => by cases h; cases r; exact .nil
  | k :: ks, _, _, h, r => by
    cases h with
    | cons h hr =>
      cases r with
      | cons x rr => exact .cons (sis_of I hE h x) (sall_of I hE hr rr)
end
theorem perm_vals {us out : List Value} (p : out.Perm us) : ∀ {vs : List V}, Vals vs us → ∃ zs, zs.Perm vs ∧ Vals zs out := by
  induction p with
  | nil => intro vs r; exact ⟨vs, .refl _, r⟩
  | cons x p ih =>
    intro vs r
    cases r with
    | cons x r =>
      obtain ⟨zs, h1, h2⟩ := ih r
      exact ⟨_ :: zs, h1.cons _, .cons x h2⟩
  | swap x y l =>
    intro vs r
    cases r with
    | cons x r =>
      cases r with
      | cons y r => exact ⟨_ :: _ :: _, .swap _ _ _, .cons y (.cons x r)⟩
  | trans p q ih1 ih2 =>
    intro vs r
    obtain ⟨zs, h1, h2⟩ := ih2 r
    obtain ⟨ws, h3, h4⟩ := ih1 h2
    exact ⟨ws, h3.trans h1, h4⟩
theorem perm_dn {E : Hp} {vs zs : List V} (p : zs.Perm vs) : ∀ {ds : List Dt}, DnA K cl E vs ds → ∃ es, es.Perm ds ∧ DnA K cl E zs es := by
  induction p with
  | nil => intro ds r; exact ⟨ds, .refl _, r⟩
  | cons x p ih =>
    intro ds r
    cases r with
    | cons x r =>
      obtain ⟨zs, h1, h2⟩ := ih r
      exact ⟨_ :: zs, h1.cons _, .cons x h2⟩
  | swap x y l =>
    intro ds r
    cases r with
    | cons x r =>
      cases r with
      | cons y r => exact ⟨_ :: _ :: _, .swap _ _ _, .cons y (.cons x r)⟩
  | trans p q ih1 ih2 =>
    intro ds r
    obtain ⟨zs, h1, h2⟩ := ih2 r
    obtain ⟨ws, h3, h4⟩ := ih1 h2
    exact ⟨ws, h3.trans h1, h4⟩
theorem keyD_of {pins : List (Addr × Obj)} {σ : L2.St} {E H : Hp} {s : Shared} (I : Inv X pins σ H s) (hE : Sub E H) {d : Dt} {k : SK} {v : V} {u : Value} (h : Dn K cl E v d) (hk : skD d = some k) (r : RelV v u) : kf s.heap u = k := by
  rw [skD_eq hk] at h
  exact kf_of (sis_of I hE h r)
/-- out of values in order, data in order -/
theorem srtd_data {pins : List (Addr × Obj)} {σ : L2.St} {E H : Hp} {s : Shared} (I : Inv X pins σ H s) (hE : Sub E H) : ∀ {ds : List Dt} {vs : List V} {us : List Value} {ks : List SK}, DnA K cl E vs ds → Vals vs us → skA ds = some ks → us.Pairwise (fun x y => ltS (kf s.heap y) (kf s.heap x) = false) → Srtd ltD ds
  | [], _, _, _, _, _, _, _ => List.Pairwise.nil
  | d :: ds, _, _, ks, h, r, hk, p => by
    cases h with
    | cons h hr =>
      cases r with
      | cons x rr =>
        simp only [skA] at hk
        cases q : skD d with
        | none => rw [q] at hk; cases hk
        | some k =>
          cases q2 : skA ds with
          | none => rw [q, q2] at hk; cases hk
          | some ks' =>
            rw [q, q2] at hk; cases hk
            obtain ⟨p1, p2⟩ := List.pairwise_cons.mp p
            refine List.pairwise_cons.mpr ⟨fun e me => ?_, srtd_data I hE hr rr q2 p2⟩
            obtain ⟨i, hi, ei⟩ := List.getElem_of_mem me
            have ge : ds[i]? = some e := by rw [List.getElem?_eq_getElem hi, ei]
            obtain ⟨v', hv', hd'⟩ := hr.get ge
            obtain ⟨u', hu', ru'⟩ := Vals.get rr hv'
            obtain ⟨k', _, hk'⟩ := skA_mem q2 me
            have z := p1 u' (List.mem_of_getElem? hu')
            rw [keyD_of I hE h q x, keyD_of I hE hd' hk' ru'] at z
            unfold ltD
            rw [skG_of q, skG_of hk']
            exact z
theorem srt_uniq {ds es : List Dt} {ks : List SK} (hk : skA ds = some ks) (p : es.Perm ds) (h : Srtd ltD es) : es = srtB ltD ds := by
  refine srt_one swo_D h (srtB_srtd swo_D ds) (p.trans (srtB_perm ds).symm) fun x mx y my h1 h2 => ?_
  obtain ⟨k, _, hx⟩ := skA_mem hk (p.mem_iff.mp mx)
  obtain ⟨j, _, hy⟩ := skA_mem hk (p.mem_iff.mp my)
  unfold ltD at h1 h2
  rw [skG_of hx, skG_of hy] at h1 h2
  have e := ltS_anti k j h1 h2
  subst e
  rw [skD_eq hx, skD_eq hy]
theorem skA_perm {ds es : List Dt} (p : es.Perm ds) : ∀ {ks : List SK}, skA ds = some ks → ∃ js, skA es = some js := by
  have all : ∀ {ds : List Dt}, (∃ ks, skA ds = some ks) ↔ ∀ d ∈ ds, ∃ k, skD d = some k := fun {ds} => by
    induction ds with
    | nil => exact ⟨fun _ d m => (nomatch m), fun _ => ⟨[], rfl⟩⟩
    | cons d ds ih =>
      constructor
      · rintro ⟨ks, h⟩ e m
        obtain ⟨k, _, hk⟩ := skA_mem h m
        exact ⟨k, hk⟩
      · intro h
        obtain ⟨k, hk⟩ := h d List.mem_cons_self
        obtain ⟨ks, hks⟩ := ih.mpr fun e m => h e (List.mem_cons_of_mem _ m)
        exact ⟨k :: ks, by simp only [skA, hk, hks]⟩
  intro ks h
  exact all.mpr fun d m => all.mp ⟨ks, h⟩ d (p.mem_iff.mp m)
variable (K cl) in
def rSortK : List V → Hp → VK → Prop := fun vs H Q => ∃ (a : Addr) (xs : List V) (E : Hp) (ds : List Dt), vs = [V.ref a] ∧ SqL K H a xs ∧ Sub E H ∧ DnA K cl E xs ds ∧ okD ds = true ∧ ∀ (zs : List V) (p : Addr), DnA K cl E zs (srtB ltD ds) → H p = none → Q (.ref p) (upd H p (.lst zs))
theorem sortable_conv {prog : Program} {w : World} {A : Around} {s : Shared} {a : Addr} {vs : List Value} {l1 l2 : Value → Value → Bool} (h : SortableO prog w A s a vs l1) (e : ∀ v ∈ vs, ∀ u ∈ vs, l1 v u = l2 v u) : SortableO prog w A s a vs l2 := fun h' keep => by
  obtain ⟨κ, h1, h2⟩ := h h' keep
  exact ⟨κ, h1, fun p q hm hm' => wpAny_mono (h2 p q hm hm') (fun b s' z => ⟨z.1, by rw [z.2]; exact e _ hm _ hm'⟩) fun _ _ x => x⟩
theorem cr_sortK (hu : X.A.units + 64 < cLine) : CallR X (.builtin "sorted") (rSortK X.K cl) := by
  intro pins s σ H vs us Q I r ⟨a, xs, E, ds, ev, hs, hE, hd, ok, q⟩
  subst ev
  obtain ⟨its, rv, hl, hz⟩ := I.list hs
  rw [Vals.ref1 r]
  unfold okD at ok
  cases hk : skA ds with
  | none => rw [hk] at ok; cases ok
  | some ks =>
  rw [hk] at ok
  have hd' := hd
  rw [skA_eq hk] at hd'
  have sa : SAll s.heap ks its := sall_of I hE hd' rv
  refine sorted_ord (swo_on (kf s.heap)) hl.isList (by rw [← rv.length]; exact hz) (fun h2 h1 b hb kk => ?_) fun out o1 o2 => ?_
  · have keep : ∀ c o, s.heap.get? c = some o → o.cls = .type "tuple" → h1.get? c = some o := fun c o e _ => (kk c o e).2
    refine sortable_conv (keys_sortable (s := { s with heap := h1 }) (sa.at keep) h2 ok (by show X.A.in1.in1.units + 8 < cLine; rw [Around.in1_units, Around.in1_units]; omega) fun o e => ?_) fun v mv u mu => ?_
    · have e' : some o = some (seqObj "list" its.toArray 0) := e.symm.trans hb
      cases e'
      intro c
      exact absurd (Value.type.inj c) (by decide)
    · obtain ⟨k1, _, i1⟩ := sa.mem mv
      obtain ⟨k2, _, i2⟩ := sa.mem mu
      show ltS (kf h1 v) (kf h1 u) = _
      rw [kf_of i1, kf_of i2, kf_of (i1.at keep), kf_of (i2.at keep)]
  · obtain ⟨zs, pz, rz⟩ := perm_vals o2.perm rv
    obtain ⟨es, pe, re⟩ := perm_dn pz hd
    obtain ⟨js, hj⟩ := skA_perm pe hk
    have e := srt_uniq hk pe (srtd_data I hE re rz hj o1)
    subst e
    obtain ⟨ep, he⟩ := sortedAll_at s.heap its out.toArray
    refine ⟨.ref _, upd H (s.heap.objs.size + 1) (.lst zs), I.laid (t' := s.toks) (fun _ _ => sortedAll_old) (Nat.le_succ _) ⟨by rw [pz.length_eq]; exact hz, out, ep, rz, he⟩, rfl, q zs _ re (I.hok.fresh (Nat.le_succ _))⟩
end
section
variable {K : PySem.W.Frag} {cl : Str → Addr} {X : Cx} {W : L2.WX} {e : Expr} {es : List Expr} {f g : Ev} {fa : Av} {pos p p2 p3 : Pos}
@[simp] def oSort : List Dt → Option Dt
  | [.lst ds] => if okD ds = true then some (.lst (srtB ltD ds)) else none
  | _ => none
theorem n_sort (hu : X.A.units + 64 < cLine) (hg : Gl X "sorted") (hm : X.mg "sorted" = none) (ha : PA X (e :: es) (tA X.K cl W (Wk X.K cl) fa))
    (he : starEach (e :: es) X.env = (false, eval e X.env) :: starEach es X.env := by rfl) (hpl : (backTo pos (starEach es X.env)).any (·.1) = false := by rfl) :
    PE X (.Call (.Name "sorted" p) (e :: es) [] pos) (tN X.K cl W (cB1 oSort fa)) :=
  PE.imp (pe_callB (cr_sortK hu) hg hm boot_sorted ha (by decide) (by decide) he hpl) (cb_ coN fun E H vs xs z sb h e Q k => by
    unfold oSort at e; split at e
    · split at e
      · rename_i ds ok
        cases e
        cases h with
        | cons h1 h2 =>
          cases h2
          obtain ⟨a, vs, rfl, hs, hr⟩ := h1.items sb.sub
          refine ⟨a, vs, E, ds, rfl, hs, sb.sub, hr, ok, fun zs p hz n => ?_⟩
          obtain ⟨g, w⟩ := new_lst sb.sub hz n
          exact k _ _ _ g w
      · cases e
    · cases e)
end
end Dl
/-! Sets of tuples, nested: ints and tuples in tuples. -/
namespace Dl
open PySem L2 PyProof.Rows PySem.Spec
def TIs (h : Heap) (k : SK) (a : Addr) : Prop := SIs h k (.ref a) ∧ dpK k ≤ 8
abbrev hsh (w : World) (k : SK) : Int := (nkS k).hash w
theorem dpA_mem : ∀ {ks : List SK} {k : SK}, k ∈ ks → dpK k ≤ dpA ks
  | j :: ks, k, m => by
    simp only [dpA]
    rcases List.mem_cons.mp m with rfl | m
    · omega
    · have := dpA_mem m; omega
section
variable {P : Program} {w : World} {A : Around} {EE : Value → Shared → Prop} {s : Shared}
theorem TIs.keep {h h' : Heap} {k : SK} {a : Addr} (x : TIs h k a) (e : ∀ b o, h.get? b = some o → h'.get? b = some o) : TIs h' k a := ⟨x.1.at fun b o q _ => e b o q, x.2⟩
theorem TIs.same {h h' : Heap} {k : SK} {a d : Addr} {o : Obj} (x : TIs h k a) (ho : h.get? d = some o) (hc : o.cls = .type "set") (e : Heap.SameBut d h h') : TIs h' k a :=
  ⟨x.1.at fun b ob q c => by
    have nd : b ≠ d := fun z => by
      subst z
      rw [ho] at q; cases q
      rw [hc] at c
      exact absurd (Value.type.inj c) (by decide)
    rw [e.2 b nd]; exact q, x.2⟩
theorem TIs.obj {h : Heap} {k : SK} {a : Addr} (x : TIs h k a) : ∃ o vs n ks, k = .tup ks ∧ h.get? a = some o ∧ o.cls = .type "tuple" ∧ o.data = .seq vs n ∧ SAll h ks vs.toList := by
  obtain ⟨x, _⟩ := x
  cases x with
  | tup ho hc hd r => exact ⟨_, _, _, _, rfl, ho, hc, hd, r⟩
theorem eq_keys {x y : SK} {a b : Addr} {Q : Bool → Shared → Prop} (ha : TIs s.heap x a) (hb : TIs s.heap y b) (hu : A.units + 8 < cLine) (q : Q (eqS x y) s) : wpAny (model P w) A (eqBool (.ref a) (.ref b)) Q EE s :=
  eqS_at ha.1 hb.1 (by have := ha.2; omega) P w EE Q q
theorem hash_key {x : SK} {a : Addr} {Q : Int → Shared → Prop} (ha : TIs s.heap x a) (hu : A.units + 8 < cLine) (q : ∀ tk, s.toks ≤ tk → Q (hsh w x) { s with toks := tk }) : wpAny (model P w) A (pyHash (.ref a)) Q EE s :=
  pyHash_key (nkS x) (.ref a) A s Q ha.1.nest (by rw [nk_depth]; have := ha.2; omega) (q _ (Nat.le_add_right _ _))
theorem quiet_k {x : SK} {a : Addr} {Q : Bool → Shared → Prop} (ha : TIs s.heap x a) (q : Q true s) : wpAny (model P w) A (eqIsQuiet 8 (.ref a)) Q EE s :=
  quiet_key (nkS x) (.ref a) 8 s ha.1.nest (by rw [nk_depth]; exact ha.2) A EE Q q
/-- no class statement's instance in it -/
theorem noClass (n : Nat) : ∀ {k : SK} {v : Value} {Q : Bool → Shared → Prop} {EE : Value → Shared → Prop}, SIs s.heap k v → dpK k ≤ n → Q false s → wpAny (model P w) A (ofAClassStatement n v) Q EE s := by
  induction n with
  | zero =>
    intro k v Q EE x hd q
    cases x with
    | num i t => exact wpAny_pure q
    | tup _ _ _ _ => simp [dpK] at hd
  | succ n ih =>
    intro k v Q EE x hd q
    cases x with
    | num i t => exact wpAny_pure q
    | @tup a o vs m ks ho hc hdt r =>
      have hd : dpA ks ≤ n := by simp only [dpK] at hd; omega
      unfold ofAClassStatement
      refine wpAny_bind (wpAny_typeOf (T := "tuple") ⟨o, ho, hc⟩ ?_)
      dsimp only
      have e : (("tuple" : String) == "tuple") = true := by decide
      simp only [e, if_true, Bool.not_true, Bool.false_eq_true, if_false]
      try refine wpAny_bind (wpAny_pure ?_)
      try simp only [Bool.not_true, Bool.false_eq_true, if_false]
      show wpAny _ _ (seqItems? (.ref a) >>= _) _ _ s
      refine wpAny_bind (wpAny_seqItems ho hdt ?_)
      dsimp only
      refine wpAny_bind ?_
      show wpAny _ _ (forIn vs _ _) _ _ s
      rw [← Array.forIn_toList]
      have all : ∀ v ∈ vs.toList, ∃ k, SIs s.heap k v ∧ dpK k ≤ n := fun v hv => by
        obtain ⟨k, mk, ik⟩ := r.mem hv
        exact ⟨k, ik, Nat.le_trans (dpA_mem mk) hd⟩
      refine wpAny_forIn_list _ (fun rest z s' => z.1 = none ∧ s' = s ∧ ∀ v ∈ rest, ∃ k, SIs s.heap k v ∧ dpK k ≤ n) _ ?_ ?_ _ _ ⟨rfl, rfl, all⟩
      · rintro v rest z s' ⟨hz, rfl, al⟩
        obtain ⟨k, ik, dk⟩ := al v List.mem_cons_self
        refine wpAny_bind (ih ik dk ?_)
        simp only [Bool.false_eq_true, if_false]
        exact wpAny_pure ⟨rfl, rfl, fun u hu => al u (List.mem_cons_of_mem _ hu)⟩
      · rintro ⟨z1, z2⟩ s' ⟨hz, rfl, _⟩
        simp only at hz
        subst hz
        exact wpAny_pure q
theorem byVal (n : Nat) : ∀ {k : SK} {v : Value} {Q : Bool → Shared → Prop} {EE : Value → Shared → Prop}, SIs s.heap k v → dpK k ≤ n → Q true s → wpAny (model P w) A (hashByValue n v) Q EE s := by
  induction n with
  | zero =>
    intro k v Q EE x hd q
    cases x with
    | num i t => exact wpAny_pure q
    | tup _ _ _ _ => simp [dpK] at hd
  | succ n ih =>
    intro k v Q EE x hd q
    cases x with
    | num i t => exact wpAny_pure q
    | @tup a o vs m ks ho hc hdt r =>
      have hd : dpA ks ≤ n := by simp only [dpK] at hd; omega
      unfold hashByValue
      refine wpAny_bind (wpAny_specialOf (T := "tuple") ⟨o, ho, hc⟩ F.slot_tuple_hash.lookup ?_)
      show wpAny _ _ (seqItems? (.ref a) >>= _) _ _ s
      refine wpAny_bind (wpAny_seqItems ho hdt ?_)
      refine wpAny_bind ?_
      show wpAny _ _ (forIn vs _ _) _ _ s
      rw [← Array.forIn_toList]
      have all : ∀ v ∈ vs.toList, ∃ k, SIs s.heap k v ∧ dpK k ≤ n := fun v hv => by
        obtain ⟨k, mk, ik⟩ := r.mem hv
        exact ⟨k, ik, Nat.le_trans (dpA_mem mk) hd⟩
      refine wpAny_forIn_list _ (fun rest z s' => z.1 = none ∧ s' = s ∧ ∀ v ∈ rest, ∃ k, SIs s.heap k v ∧ dpK k ≤ n) _ ?_ ?_ _ _ ⟨rfl, rfl, all⟩
      · rintro v rest z s' ⟨hz, rfl, al⟩
        obtain ⟨k, ik, dk⟩ := al v List.mem_cons_self
        refine wpAny_bind (ih ik dk ?_)
        simp only [Bool.not_true, Bool.false_eq_true, if_false]
        exact wpAny_pure ⟨rfl, rfl, fun u hu => al u (List.mem_cons_of_mem _ hu)⟩
      · rintro ⟨z1, z2⟩ s' ⟨hz, rfl, _⟩
        simp only at hz
        subst hz
        exact wpAny_pure q
theorem unseen {k : SK} {b : Addr} {Q : Bool → Shared → Prop} (hk : TIs s.heap k b) {ys : List Value} (hy : ∀ y ∈ ys, ∃ j c, y = Value.ref c ∧ TIs s.heap j c) (q : Q false s) : wpAny (model P w) A (searchCouldBeSeen (.ref b) ys) Q EE s := by
  unfold searchCouldBeSeen
  refine wpAny_bind (wpAny_forIn_list _ (fun rest z s' => z.1 = none ∧ s' = s ∧ ∀ y ∈ rest, ∃ j c, y = Value.ref c ∧ TIs s.heap j c) _ ?_ ?_ _ _ ⟨rfl, rfl, hy⟩)
  · rintro v rest z s' ⟨hz, rfl, al⟩
    obtain ⟨j, c, rfl, hc⟩ := al v List.mem_cons_self
    have more : ∀ y ∈ rest, ∃ j c, y = Value.ref c ∧ TIs s'.heap j c := fun u hu => al u (List.mem_cons_of_mem _ hu)
    dsimp only
    by_cases hv : (b == c || (carriedByValue (.ref b) && carriedByValue (.ref c))) = true
    · exact wp_if_pos hv (wpAny_pure ⟨rfl, rfl, more⟩)
    · refine wp_if_neg hv (wpAny_bind (quiet_k hk ?_))
      simp only [Bool.not_true, Bool.false_eq_true, if_false]
      refine wpAny_bind (quiet_k hc ?_)
      simp only [Bool.not_true, Bool.false_eq_true, if_false]
      refine wpAny_bind (noClass 8 hk.1 hk.2 ?_)
      simp only [Bool.false_eq_true, if_false]
      refine wpAny_bind (noClass 8 hc.1 hc.2 ?_)
      simp only [Bool.false_eq_true, if_false]
      exact wpAny_pure ⟨rfl, rfl, more⟩
  · rintro ⟨z1, z2⟩ s' ⟨hz, rfl, _⟩
    simp only at hz
    subst hz
    exact wpAny_pure q
/-! ### the set at a: its elements in the table's order -/
abbrev rowsV (w : World) (L : List (Addr × SK)) : List (Int × Value) := L.map fun p => (hsh w p.2, Value.ref p.1)
structure SetV (P : Program) (w : World) (h : Heap) (a : Addr) (L : List (Addr × SK)) (es : Array (Int × Value)) (ep : Nat) (t : SetTable) : Prop where
  ob : ∃ o, h.get? a = some o ∧ o.ExactSet ∧ o.data = .set es ep t
  rows : es.toList = rowsV w L
  tab : TabOk t (L.map fun p => hsh w p.2)
  nd : (L.map (·.2)).Nodup
  keys : ∀ p ∈ L, TIs h p.2 p.1
  plain : t.plain = true
  led : w.params.followText "set-order" = true ∨ t.led = true
  room : L.length * 5 < t.mask * 3
  few : L.length < 64
variable {a : Addr} {L : List (Addr × SK)} {es : Array (Int × Value)} {ep : Nat} {t : SetTable}
theorem SetV.size (R : SetV P w s.heap a L es ep t) : es.size = L.length := by
  have := congrArg List.length R.rows
  rwa [Array.length_toList, List.length_map] at this
theorem fits_of (hd : t.dummies = #[]) (h1 : t.place.size = es.size) (h2 : t.place.size ≤ t.mask) : t.fits es.size = true := by
  unfold SetTable.fits SetTable.fill
  rw [hd, Bool.and_eq_true, beq_iff_eq, decide_eq_true_eq]
  exact ⟨h1, by show t.place.size + 0 ≤ t.mask; omega⟩
theorem SetV.fits (R : SetV P w s.heap a L es ep t) : t.fits es.size = true := by
  have z := R.tab.sz
  rw [List.length_map] at z
  have := R.room
  exact fits_of R.tab.dm (by rw [z, R.size]) (by omega)
theorem SetV.entry (R : SetV P w s.heap a L es ep t) {i : Nat} {p : Addr × SK} (h : L[i]? = some p) : es[i]? = some (hsh w p.2, Value.ref p.1) := by
  rw [← Array.getElem?_toList, R.rows, List.getElem?_map, h]; rfl
theorem SetV.stay (R : SetV P w s.heap a L es ep t) : ¬ t.gaveWay = true := by
  unfold SetTable.gaveWay
  rw [mask_odd R.tab.mok]
  decide
theorem SetV.keep {h h' : Heap} (R : SetV P w h a L es ep t) (ha : ∀ o, h.get? a = some o → h'.get? a = some o) (hk : ∀ p ∈ L, TIs h' p.2 p.1) : SetV P w h' a L es ep t :=
  let ⟨o, ho, r⟩ := R.ob
  ⟨⟨o, ha o ho, r⟩, R.rows, R.tab, R.nd, hk, R.plain, R.led, R.room, R.few⟩
/-- no step of a way makes a dummy -/
theorem nth_nodummy (m : Nat) : ∀ (n : Nat) (p : SetTable.Probe), p.dummy = none → (nth m p n).dummy = none
  | 0, p, h => h
  | n + 1, p, h => nth_nodummy m n (adv m p) (by unfold adv; split <;> exact h)
/-- the search for x from step c of its way, K the way's first empty slot -/
theorem searchV (R : SetV P w s.heap a L es ep t) {x : Addr} {k : SK} (hx : TIs s.heap k x) (hu : A.units + 8 < cLine) {K : Nat} (hKf : K < 10 * SetTable.turns t.mask)
    (hK : way t.mask (hsh w k) K ∉ t.place.toList) (hKb : ∀ c, c < K → way t.mask (hsh w k) c ∈ t.place.toList) {Q : SetFound → Shared → Prop}
    (there : k ∈ L.map (·.2) → Q (.there none) s) (free : k ∉ L.map (·.2) → Q (.free (way t.mask (hsh w k) K) false) s) : ∀ (f c : Nat) (stand : Option SetTable.Probe),
      stand.getD (t.probeStart (hsh w k)) = nth t.mask (runAt t.mask (SetTable.bits (hsh w k) % (t.mask + 1)) (SetTable.bits (hsh w k))) c → c ≤ K → K - c < f →
      (∀ (i : Nat) p, L[i]? = some p → p.2 = k → ∃ c', c ≤ c' ∧ c' < K ∧ t.place.toList[i]? = some (way t.mask (hsh w k) c')) → wpAny (model P w) A (setSearchFrom a (.ref x) (hsh w k) true f stand) Q EE s := by
  intro f
  induction f with
  | zero => intro c stand _ _ hf _; exact absurd hf (Nat.not_lt_zero _)
  | succ f ih =>
    intro c stand hst hc hf hre
    obtain ⟨o, ho, hex, hd⟩ := R.ob
    generalize hH : hsh w k = h at *
    have at_ : ∀ q, nth t.mask (nth t.mask (runAt t.mask (SetTable.bits h % (t.mask + 1)) (SetTable.bits h)) c) q = nth t.mask (runAt t.mask (SetTable.bits h % (t.mask + 1)) (SetTable.bits h)) (c + q) := fun q => (nth_add t.mask c _ q).symm
    have j_ : ∀ q, (nth t.mask (nth t.mask (runAt t.mask (SetTable.bits h % (t.mask + 1)) (SetTable.bits h)) c) q).j = way t.mask h (c + q) := fun q => congrArg SetTable.Probe.j (at_ q)
    have spec := go_spec t R.tab.ris R.tab.dm (fun i => (es[i]?.map (·.1)).getD 0) h (10 * SetTable.turns t.mask) (K - c) _ (nth_nodummy t.mask c _ (rfl : (runAt t.mask (SetTable.bits h % (t.mask + 1)) (SetTable.bits h)).dummy = none)) (by omega)
      (fun q hq => by rw [j_]; exact hKb (c + q) (by omega)) (by rw [j_, show c + (K - c) = K by omega]; exact hK)
    have hashOf : ∀ (i : Nat) p, L[i]? = some p → (fun i => (es[i]?.map (·.1)).getD 0) i = hsh w p.2 := fun i p hp => by
      show (es[i]?.map (·.1)).getD 0 = _
      rw [R.entry hp]; rfl
    rw [setSearchFrom_succ]
    refine wpAny_bind (wpAny_setState_of ho hd R.fits ?_)
    dsimp only
    refine wp_if_neg R.stay ?_
    try refine wpAny_bind (wpAny_pure ?_)
    rcases spec with ⟨q, i, hq, hi, hh, hno, hpr⟩ | ⟨hno, hpr⟩
    · have probe : t.probe (fun i => (es[i]?.map (·.1)).getD 0) h (stand.getD (t.probeStart h)) = some (.candidate (way t.mask h (c + q)) i (nth t.mask (runAt t.mask (SetTable.bits h % (t.mask + 1)) (SetTable.bits h)) (c + (q + 1)))) := by
        rw [hst, ← j_, ← at_]; exact hpr
      rw [probe]
      dsimp only
      rw [j_] at hi
      have lt : i < L.length := by
        have z1 : i < t.place.toList.length := (List.getElem?_eq_some_iff.mp hi).1
        have z2 := R.tab.sz
        rw [List.length_map] at z2
        rw [Array.length_toList] at z1
        omega
      obtain ⟨p, hp⟩ : ∃ p, L[i]? = some p := ⟨_, List.getElem?_eq_getElem lt⟩
      have mp := List.mem_of_getElem? hp
      have slot : t.slot (way t.mask h (c + q)) = .live i := slot_live R.tab.ris hi
      have rest : wpAny (model P w) A (searchRest a (.ref x) h true f es t (way t.mask h (c + q)) i (nth t.mask (runAt t.mask (SetTable.bits h % (t.mask + 1)) (SetTable.bits h)) (c + (q + 1)))) Q EE s := by
        unfold searchRest
        rw [R.entry hp]
        dsimp only
        refine wpAny_bind (wpAny_holding (eq_keys (R.keys p mp) hx hu ?_))
        refine wpAny_bind (wpAny_setState_of ho hd R.fits ?_)
        dsimp only
        by_cases hkk : p.2 = k
        · exact wp_if_pos (by rw [hkk, eqS_self]; rfl) (wpAny_pure (there (List.mem_map.mpr ⟨p, mp, hkk⟩)))
        · have ne : eqS p.2 k = false := by
            cases z : eqS p.2 k with
            | false => rfl
            | true => exact absurd (eqS_eq _ _ z) hkk
          refine wp_if_neg (by rw [ne]; simp) ?_
          try refine wpAny_bind (wpAny_pure ?_)
          rw [sameMem]
          dsimp only
          simp only [if_true, slot, R.entry hp]
          refine wpAny_bind (wpAny_isSame_ref_self (wpAny_bind (wpAny_pure ?_)))
          simp only [if_true]
          refine wp_if_neg (by rw [ne]; simp) (ih (c + (q + 1)) _ rfl (by omega) (by omega) fun i0 p0 h0 hk0 => ?_)
          obtain ⟨c', a1, a2, a3⟩ := hre i0 p0 h0 hk0
          have same : (fun i => (es[i]?.map (·.1)).getD 0) i0 = h := (hashOf i0 p0 h0).trans (by rw [hk0, hH])
          refine ⟨c', ?_, a2, a3⟩
          rcases Nat.lt_trichotomy c' (c + q) with z | z | z
          · exact absurd same (hno (c' - c) i0 (by omega) (by rw [j_, show c + (c' - c) = c' by omega]; exact a3))
          · rw [z] at a3
            have s0 := slot_live R.tab.ris a3
            rw [slot] at s0
            injection s0 with s0
            rw [← s0, hp] at h0
            exact absurd ((congrArg Prod.snd (Option.some.inj h0)).trans hk0) hkk
          · omega
      by_cases hl : t.led = true
      · refine wp_if_neg (by simp [hl]) ?_
        try refine wpAny_bind (wpAny_pure ?_)
        exact rest
      · refine wp_if_pos (by simp [hl]) (wpAny_bind (unseen hx (fun y hy => ?_) ?_))
        · obtain ⟨e, he, ee⟩ := List.mem_map.mp hy
          have he2 : e ∈ es.toList := by
            have z : e ∈ es ∧ e.1 = h := by simpa using he
            simpa using z.1
          rw [R.rows] at he2
          obtain ⟨p2, hp2, e2⟩ := List.mem_map.mp he2
          exact ⟨p2.2, p2.1, by rw [← ee, ← e2], R.keys p2 hp2⟩
        · refine wp_if_neg (by decide) ?_
          try refine wpAny_bind (wpAny_pure ?_)
          exact rest
    · have probe : t.probe (fun i => (es[i]?.map (·.1)).getD 0) h (stand.getD (t.probeStart h)) = some (.empty (way t.mask h K) none) := by
        have e2 : way t.mask h K = (nth t.mask (nth t.mask (runAt t.mask (SetTable.bits h % (t.mask + 1)) (SetTable.bits h)) c) (K - c)).j := by
          rw [j_, show c + (K - c) = K by omega]
        rw [hst, e2]; exact hpr
      rw [probe]
      dsimp only
      refine wpAny_pure (free fun hm => ?_)
      obtain ⟨p0, m0, hk0⟩ := List.mem_map.mp hm
      obtain ⟨i0, hi0, e0⟩ := List.getElem_of_mem m0
      have h0 : L[i0]? = some p0 := by rw [List.getElem?_eq_getElem hi0, e0]
      obtain ⟨c', a1, a2, a3⟩ := hre i0 p0 h0 hk0
      exact hno (c' - c) i0 (by omega) (by rw [j_, show c + (c' - c) = c' by omega]; exact a3) ((hashOf i0 p0 h0).trans (by rw [hk0, hH]))
theorem search_set (R : SetV P w s.heap a L es ep t) {x : Addr} {k : SK} (hx : TIs s.heap k x) (hu : A.units + 8 < cLine) {Q : SetFound → Shared → Prop} (there : k ∈ L.map (·.2) → Q (.there none) s)
    (free : ∀ K, k ∉ L.map (·.2) → way t.mask (hsh w k) K ∉ t.place.toList → (∀ c, c < K → way t.mask (hsh w k) c ∈ t.place.toList) → Q (.free (way t.mask (hsh w k) K) false) s) :
    wpAny (model P w) A (setSearch a (.ref x) (hsh w k) true) Q EE s := by
  have room := R.room
  obtain ⟨K, hKf, hK, hKb⟩ := R.tab.first (by rw [List.length_map]; omega) (hsh w k)
  have big : 10 * SetTable.turns t.mask ≤ 1420 := by
    unfold SetTable.turns
    rcases R.tab.mok with e | e | e <;> omega
  unfold setSearch
  refine searchV R hx hu hKf hK hKb there (fun hn => free K hn hK hKb) 100000 0 none rfl (Nat.zero_le _) (by omega) fun i p hp hk => ?_
  have hi : (L.map fun p => hsh w p.2)[i]? = some (hsh w k) := by rw [List.getElem?_map, hp, ← hk]; rfl
  have lt : i < t.place.toList.length := by
    have z1 : i < L.length := (List.getElem?_eq_some_iff.mp hp).1
    have z2 := R.tab.sz
    rw [List.length_map] at z2
    rw [Array.length_toList]; omega
  have hj := List.getElem?_eq_getElem lt
  obtain ⟨c, hc, e⟩ := R.tab.before hK hi hj
  exact ⟨c, Nat.zero_le _, hc, by rw [hj, e]⟩
end
end Dl
namespace Dl
open PySem L2 PyProof.Rows PySem.Spec
theorem range_get {α : Type} : ∀ L : List α, (List.range L.length).filterMap (fun i => L[i]?) = L
  | [] => rfl
  | x :: L => by
    rw [List.length_cons, List.range_succ_eq_map, List.filterMap_cons_some (b := x) (by rfl), List.filterMap_map]
    congr 1
    exact range_get L
section
variable {P : Program} {w : World} {A : Around} {EE : Value → Shared → Prop} {s : Shared} {a : Addr} {L : List (Addr × SK)} {es : Array (Int × Value)} {ep : Nat} {t : SetTable}
theorem row_at {L : List (Addr × SK)} {es : Array (Int × Value)} (hr : es.toList = rowsV w L) (i : Nat) : es[i]? = (L[i]?).map fun p => (hsh w p.2, Value.ref p.1) := by
  rw [← Array.getElem?_toList, hr, List.getElem?_map]
/-- the table laid anew -/
theorem relayV {o : Obj} (ho : s.heap.get? a = some o) (hex : o.ExactSet) (hd : o.data = .set es ep t) (hrows : es.toList = rowsV w L) (hsz : t.place.size = es.size) (hdm : t.dummies = #[]) (hfl : es.size ≤ t.mask) (nd : (L.map (·.2)).Nodup)
    (keys : ∀ p ∈ L, TIs s.heap p.2 p.1) (pl : t.plain = true) (ld : w.params.followText "set-order" = true ∨ t.led = true) (few : L.length < 64) {wanted M : Nat} (hw : SetTable.sizeAbove wanted - 1 = M) (hM : MaskOk M) (hw2 : SetTable.sizeAbove wanted ≤ 128) (room : L.length * 5 < M * 3) {Q : Unit → Shared → Prop}
    (hQ : ∀ h' L' es' ep' t', Heap.SameBut a s.heap h' → SetV P w h' a L' es' ep' t' → L'.Perm L → Q () { s with heap := h' }) : wpAny (model P w) A (setRelay a wanted) Q EE s := by
  have n0 : es.size = L.length := by
    have := congrArg List.length hrows
    rwa [Array.length_toList, List.length_map] at this
  have fits : t.fits es.size = true := fits_of hdm hsz (by omega)
  obtain ⟨t', order, e, hp, T, em, el, ep', ed⟩ := relaid_ok t (hs := es.map (·.1)) (wanted := wanted) hw hM (by rw [Array.size_map, n0]; omega)
  rw [Array.size_map, n0] at hp
  obtain ⟨L2, eL⟩ : ∃ L2, L2 = order.toList.filterMap (fun i => L[i]?) := ⟨_, rfl⟩
  have pL : L2.Perm L := by
    have z : L2.Perm ((List.range L.length).filterMap fun i => L[i]?) := by rw [eL]; exact hp.filterMap _
    rwa [range_get] at z
  have rows2 : (order.filterMap (es[·]?)).toList = rowsV w L2 := by
    have z : order.toList.filterMap (fun i => es[i]?) = (order.toList.filterMap (fun i => L[i]?)).map fun p => (hsh w p.2, Value.ref p.1) := by
      rw [List.map_filterMap]
      exact congrArg (fun f => order.toList.filterMap f) (funext fun i => row_at hrows i)
    rw [eL]
    first
      | (rw [Array.toList_filterMap]; exact z)
      | simpa using z
  have hashes : (L2.map fun p => hsh w p.2) = order.toList.map fun i => (es.map (·.1)).getD i 0 := by
    have all : ∀ l : List Nat, (∀ i ∈ l, i < L.length) → ((l.filterMap (fun i => L[i]?)).map fun p => hsh w p.2) = l.map fun i => (es.map (·.1)).getD i 0 := by
      intro l
      induction l with
      | nil => intro _; rfl
      | cons i l ih =>
        intro hl
        have hi := hl i List.mem_cons_self
        rw [List.filterMap_cons_some (List.getElem?_eq_getElem hi), List.map_cons, List.map_cons, ih fun j hj => hl j (List.mem_cons_of_mem _ hj)]
        congr 1
        have z : (es.map (·.1))[i]? = some (hsh w L[i].2) := by rw [Array.getElem?_map, row_at hrows, List.getElem?_eq_getElem hi]; rfl
        simp [Array.getD_eq_getD_getElem?, z]
    rw [eL]
    exact all _ fun i hi => List.mem_range.mp (hp.mem_iff.mp hi)
  rw [← hashes] at T
  have size2 : (order.filterMap (es[·]?)).size = es.size := by
    have z := congrArg List.length rows2
    rw [Array.length_toList, List.length_map, pL.length_eq] at z
    rw [z, n0]
  rw [setRelay_eq]
  refine wpAny_bind (wpAny_setState_of ho hd fits ?_)
  dsimp only
  refine wp_if_neg (by rw [sizeLine_eq]; omega) ?_
  try refine wpAny_bind (wpAny_pure ?_)
  rw [e]
  dsimp only
  refine wpAny_bind (wp_if_neg (by rw [size2]; simp) ?_)
  try refine wpAny_bind (wpAny_pure ?_)
  refine wpAny_pure ?_
  dsimp only
  refine wpAny_storeSet_of ho hd ?_ (by rw [size2, n0, sizeLine_eq]; omega)
  have sb : Heap.SameBut a s.heap (s.heap.update a (Obj.putSet (order.filterMap (es[·]?)) t')) := Heap.SameBut.update ..
  refine hQ _ L2 _ (ep + 1) t' sb ⟨⟨_, store_at ho hd, ⟨hex.1, hex.2.1, hex.2.2⟩, rfl⟩, rows2, T, (pL.map (·.2)).nodup_iff.mpr nd, fun p hpm => (keys p (pL.mem_iff.mp hpm)).same ho hex.1 sb, by rw [ep']; exact pl, by rw [el]; exact ld, ?_, by rw [pL.length_eq]; exact few⟩ pL
  rw [pL.length_eq, em]; exact room
/-- one more element -/
theorem addV (R : SetV P w s.heap a L es ep t) {x : Addr} {k : SK} (hx : TIs s.heap k x) (hu : A.units + 8 < cLine) (few : L.length + 1 < 64) {Q : Bool → Shared → Prop}
    (hQ : ∀ b h' L' es' ep' t', Heap.SameBut a s.heap h' → SetV P w h' a L' es' ep' t' → (k ∈ L.map (·.2) → L' = L) → (k ∉ L.map (·.2) → L'.Perm ((x, k) :: L)) → Q b { s with heap := h' }) :
    wpAny (model P w) A (setAddHashed a (.ref x) (hsh w k)) Q EE s := by
  obtain ⟨o, ho, hex, hd⟩ := R.ob
  have n0 := R.size
  have room := R.room
  unfold setAddHashed
  refine wpAny_holding ?_
  rw [show (100000 : Nat) = 99999 + 1 from rfl, setAddHashedIn_succ]
  refine wpAny_bind (wpAny_setState_of ho hd R.fits ?_)
  dsimp only
  refine wp_if_neg (by simp [byScan, Value.scannable]) ?_
  try refine wpAny_bind (wpAny_pure ?_)
  refine wpAny_bind (search_set R hx hu (fun hm => ?_) fun K hm hK hb => ?_)
  · dsimp only
    exact wpAny_pure (hQ false s.heap L es ep t (Heap.SameBut.refl a s.heap) R (fun _ => rfl) fun z => absurd hm z)
  dsimp only
  refine wpAny_bind (wpAny_setState_of ho hd R.fits ?_)
  dsimp only
  obtain ⟨q1, q2, q3, q4, q5, q6, q7, q8, q9⟩ := R.tab.put hK hb
  have pl1 : (t.put (way t.mask (hsh w k) K)).1.plain = true := by rw [q6]; exact R.plain
  generalize hpt : t.put (way t.mask (hsh w k) K) = pt at q1 q3 q4 q5 q6 q7 q8 q9 pl1 ⊢
  obtain ⟨t1, pz⟩ := pt
  dsimp only at q1 q3 q4 q5 q6 q7 q8 q9 pl1 ⊢
  subst q1
  first
    | (refine wpAny_bind ?_; refine wp_if_pos pl1 ?_; refine byVal 8 hx.1 hx.2 ?_)
    | refine wp_if_pos pl1 (wpAny_bind (byVal 8 hx.1 hx.2 ?_))
  simp only [if_true]
  generalize SetTable.below t.place (way t.mask (hsh w k) K) = pz at q2 q3 ⊢
  -- the rows with the new one
  obtain ⟨L1, eL⟩ : ∃ L1, L1 = L.take pz ++ (x, k) :: L.drop pz := ⟨_, rfl⟩
  have pm : L1.Perm ((x, k) :: L) := by rw [eL]; exact put_perm L pz (x, k)
  have n1 : L1.length = L.length + 1 := pm.length_eq
  have rows1 : (SetTable.insertAt es pz (hsh w k, Value.ref x)).toList = rowsV w L1 := by
    rw [SetTable.toList_insertAt, R.rows, eL]
    unfold rowsV
    rw [List.map_append, List.map_cons, List.map_take, List.map_drop]
  have hashes : L1.map (fun p => hsh w p.2) = (L.map fun p => hsh w p.2).take pz ++ hsh w k :: (L.map fun p => hsh w p.2).drop pz := by
    rw [eL, List.map_append, List.map_cons, List.map_take, List.map_drop]
  rw [← hashes] at q3
  have nd1 : (L1.map (·.2)).Nodup := (pm.map (·.2)).nodup_iff.mpr (by rw [List.map_cons]; exact List.nodup_cons.mpr ⟨hm, R.nd⟩)
  have sz1 : (SetTable.insertAt es pz (hsh w k, Value.ref x)).size = L.length + 1 := by
    have z := congrArg List.length rows1
    rwa [Array.length_toList, List.length_map, n1] at z
  generalize SetTable.insertAt es pz (hsh w k, Value.ref x) = es1 at rows1 sz1 ⊢
  refine wpAny_bind (wpAny_storeSet_of ho hd ?_ (by rw [sz1, sizeLine_eq]; omega))
  have sb : Heap.SameBut a s.heap (s.heap.update a (Obj.putSet es1 t1)) := Heap.SameBut.update ..
  have ho1 := store_at (es' := es1) (t' := t1) ho hd
  generalize s.heap.update a (Obj.putSet es1 t1) = h1 at sb ho1 ⊢
  have keys1 : ∀ p ∈ L1, TIs h1 p.2 p.1 := fun p hp => by
    rcases List.mem_cons.mp (pm.mem_iff.mp hp) with e | hp
    · rw [e]; exact hx.same ho hex.1 sb
    · exact (R.keys p hp).same ho hex.1 sb
  have led1 : w.params.followText "set-order" = true ∨ t1.led = true := by rw [q5]; exact R.led
  have ex1 : Obj.ExactSet _ := ⟨hex.1, hex.2.1, hex.2.2⟩
  by_cases full : t1.tooFull = true
  · first
      | (refine wpAny_bind ?_; refine wp_if_pos (by simp [full]) ?_)
      | (refine wp_if_pos (by simp [full]) ?_; refine wpAny_bind ?_)
    have hfull : (L.length + 1) * 5 ≥ t1.mask * 3 := by
      have z := full
      unfold SetTable.tooFull at z
      rwa [decide_eq_true_eq, q9, List.length_map] at z
    rw [n0]
    have szp : t1.place.size = es1.size := by
      have z := q3.sz
      rw [List.length_map, n1] at z
      rw [z, sz1]
    have relay : ∀ M, SetTable.sizeAbove (SetTable.grown (L.length + 1)) - 1 = M → MaskOk M → SetTable.sizeAbove (SetTable.grown (L.length + 1)) ≤ 128 → (L.length + 1) * 5 < M * 3 → es1.size ≤ t1.mask →
        wpAny (model P w) A (setRelay a (SetTable.grown (L.length + 1))) (fun _ s' => wpAny (model P w) A (pure true) Q EE s') EE { s with heap := h1 } := fun M m1 m2 m3 m4 m5 =>
      relayV (s := { s with heap := h1 }) ho1 ex1 rfl rows1 szp q3.dm m5 nd1 keys1 pl1 led1 (by rw [n1]; exact few) m1 m2 m3 (by rw [n1]; exact m4)
        fun h2 L2 es2 ep2 t2 sb2 R2 p2 => wpAny_pure (hQ true h2 L2 es2 ep2 t2 (sb.trans sb2) R2 (fun z => absurd z hm) fun _ => p2.trans pm)
    rcases R.tab.mok with e | e | e
    · have e4 : L.length = 4 := by rw [q4, e] at hfull; rw [e] at room; omega
      exact relay 31 (by rw [e4, size_20]) (.inr (.inl rfl)) (by rw [e4, size_20]; decide) (by omega) (by rw [sz1, q4, e]; omega)
    · have e4 : L.length = 18 := by rw [q4, e] at hfull; rw [e] at room; omega
      exact relay 127 (by rw [e4, size_76]) (.inr (.inr rfl)) (by rw [e4, size_76]; decide) (by omega) (by rw [sz1, q4, e]; omega)
    · exfalso; rw [q4, e] at hfull; omega
  · first
      | refine wp_if_neg (by simp [full]) ?_
      | (refine wpAny_bind ?_; refine wp_if_neg (by simp [full]) ?_; refine wpAny_pure ?_)
    refine wpAny_pure (hQ true h1 L1 es1 (ep + 1) t1 sb ⟨⟨_, ho1, ex1, rfl⟩, rows1, q3, nd1, keys1, pl1, led1, ?_, by rw [n1]; exact few⟩ (fun z => absurd z hm) fun _ => pm)
    have z := full
    unfold SetTable.tooFull at z
    rw [decide_eq_true_eq, q9, List.length_map] at z
    rw [n1]; omega
/-! ### set(xs) -/
/-- what the first i items make -/
structure Seen (ks : List (Addr × SK)) (i : Nat) (L : List (Addr × SK)) : Prop where
  sub : ∀ p ∈ L, p ∈ ks.take i
  all : ∀ p ∈ ks.take i, p.2 ∈ L.map (·.2)
  len : L.length ≤ i
theorem Seen.next {ks L L' : List (Addr × SK)} {i : Nat} {x : Addr × SK} (g : Seen ks i L) (h : ks[i]? = some x) (c1 : x.2 ∈ L.map (·.2) → L' = L) (c2 : x.2 ∉ L.map (·.2) → L'.Perm (x :: L)) : Seen ks (i + 1) L' := by
  have tk : ks.take (i + 1) = ks.take i ++ [x] := by rw [List.take_succ, h]; rfl
  by_cases m : x.2 ∈ L.map (·.2)
  · have e := c1 m
    subst e
    refine ⟨fun p hp => by rw [tk]; exact List.mem_append_left _ (g.sub p hp), fun p hp => ?_, Nat.le_succ_of_le g.len⟩
    rw [tk] at hp
    rcases List.mem_append.mp hp with z | z
    · exact g.all p z
    · rw [List.mem_singleton.mp z]; exact m
  · have pm := c2 m
    refine ⟨fun p hp => ?_, fun p hp => ?_, by rw [pm.length_eq]; exact Nat.succ_le_succ g.len⟩
    · rw [tk]
      rcases List.mem_cons.mp (pm.mem_iff.mp hp) with e | z
      · rw [e]; exact List.mem_append_right _ (List.mem_singleton.mpr rfl)
      · exact List.mem_append_left _ (g.sub p z)
    · rw [(pm.map (·.2)).mem_iff, List.map_cons]
      rw [tk] at hp
      rcases List.mem_append.mp hp with z | z
      · exact List.mem_cons_of_mem _ (g.all p z)
      · rw [List.mem_singleton.mp z]; exact List.mem_cons_self
theorem freshV {h : Heap} {a : Addr} (ho : h.get? a = some { cls := .type "set", dict := none, data := .set #[] 0 (.fresh 0 0 (!w.params.followText "set-order")) }) : SetV P w h a [] #[] 0 (.fresh 0 0 (!w.params.followText "set-order")) where
  ob := ⟨_, ho, ⟨rfl, rfl, rfl⟩, rfl⟩
  rows := rfl
  tab := ⟨List.Pairwise.nil, rfl, rfl, .inl rfl, fun x hx => (by cases hx), fun i h j hi => (by simp at hi)⟩
  nd := List.nodup_nil
  keys := fun p hp => (by cases hp)
  plain := rfl
  led := by
    show _ ∨ (!w.params.followText "set-order") = true
    cases w.params.followText "set-order" <;> simp
  room := by show 0 * 5 < 7 * 3; decide
  few := by show 0 < 64; decide
/-- set.update over what an iterator yields -/
theorem updateV {I : Addr} {fp wr : List Addr} {G : Array GenState → Array GenState → Prop} {n : Nat} {Pv : Nat → Value → Prop} {St : Nat → Shared → Prop} {R : Result → Shared → Prop} (W : WalksS P w A.in1 I fp wr G n Pv St) (S : Addr) (hSf : S ∉ fp) (ks : List (Addr × SK)) (hn : n = ks.length) (few : ks.length < 64)
    (hval : ∀ i v, Pv i v → ∃ p, ks[i]? = some p ∧ v = .ref p.1) (h0 : Heap) (hk : ∀ p ∈ ks, TIs h0 p.2 p.1) (hS0 : h0.get? S = none) (hw0 : ∀ b ∈ wr, h0.get? b = none) (hu : A.in1.units + 8 < cLine) : ∀ (k i : Nat) (s : Shared), n - i = k → i ≤ n → St i s → (∀ b o, h0.get? b = some o → s.heap.get? b = some o) →
      (∃ L es ep t, SetV P w s.heap S L es ep t ∧ Seen ks i L) → (∀ s' L es ep t, Moved (S :: wr) G s s' → SetV P w s'.heap S L es ep t → Seen ks n L → (∀ b o, h0.get? b = some o → s'.heap.get? b = some o) → R (.ok (.ret .none)) s') →
      codeAny (model P w) A (.builtin "set.update.loop" ⟨[.ref S, .ref I], []⟩) R s := by
  have nSw : S ∉ wr := fun z => hSf (W.sub _ z)
  have more : ∀ b ∈ wr, b ∈ S :: wr := fun b hb => List.mem_cons_of_mem _ hb
  have up : ∀ {s s' : Shared}, Moved wr G s s' → (∀ b o, h0.get? b = some o → s.heap.get? b = some o) → ∀ b o, h0.get? b = some o → s'.heap.get? b = some o := fun m k b o e => m.heap b o (fun hb => by rw [hw0 b hb] at e; cases e) (k b o e)
  intro k
  induction k with
  | zero =>
    intro i s hk' hi hst hkp ⟨L, es, ep, t, hS, g⟩ hR
    have e : i = n := by omega
    subst e
    refine codeAny_builtin F.entry_set_update_loop ?_
    rw [Around.under_plainId F.plain_set_update_loop _]
    show wpAny _ A.in1 (pyNext (.ref I) >>= _) _ _ s
    refine wpAny_bind (W.done s _ _ hst fun s' hm => ?_)
    show wpAny _ A.in1 (ret Value.none) _ _ s'
    have kp := up hm hkp
    exact wpAny_pure (hR s' L es ep t (hm.mono more) (hS.keep (fun o e => hm.heap S o nSw e) fun p hp => (hk p (List.mem_of_mem_take (g.sub p hp))).keep kp) g kp)
  | succ k ih =>
    intro i s hk' hi hst hkp ⟨L, es, ep, t, hS, g⟩ hR
    have lt : i < n := by omega
    refine codeAny_builtin F.entry_set_update_loop ?_
    rw [Around.under_plainId F.plain_set_update_loop _]
    show wpAny _ A.in1 (pyNext (.ref I) >>= _) _ _ s
    refine wpAny_bind (W.item i s _ _ lt hst fun v s' hP hst' hm => ?_)
    obtain ⟨p, hp, rfl⟩ := hval i v hP
    have kp := up hm hkp
    have R1 : SetV P w s'.heap S L es ep t := hS.keep (fun o e => hm.heap S o nSw e) fun q hq => (hk q (List.mem_of_mem_take (g.sub q hq))).keep kp
    have x1 : TIs s'.heap p.2 p.1 := (hk p (List.mem_of_getElem? hp)).keep kp
    show wpAny _ A.in1 (holding [Value.ref p.1] (setAdd S (.ref p.1)) >>= _) _ _ s'
    refine wpAny_bind (wpAny_holding ?_)
    unfold setAdd
    refine wpAny_holding (wpAny_bind (hash_key x1 hu fun tk htk => ?_))
    refine addV (s := { s' with toks := tk }) R1 x1 hu (by have := g.len; omega) fun b h' L' es' ep' t' sb R2 c1 c2 => ?_
    have kp2 : ∀ b o, h0.get? b = some o → h'.get? b = some o := fun b o e => (sb.2 b (fun z => by rw [z, hS0] at e; cases e)).trans (kp b o e)
    refine wpAny_pure ⟨plainId_quiet F.plain_set_update_loop _, ih (i + 1) _ (by omega) lt (W.frame _ s' _ _ hst' htk fun b hb o e => ?_) kp2 ⟨L', es', ep', t', R2, g.next hp c1 c2⟩ fun s'' L2 es2 ep2 t2 m2 R3 g2 kp3 => ?_⟩
    · rw [sb.2 b (fun z : b = S => hSf (by rw [← z]; exact hb))]; exact e
    · refine hR s'' L2 es2 ep2 t2 (Moved.trans W.gtrans ((hm.mono more).then_heap htk fun b o hb e => ?_) m2) R3 g2 kp3
      rw [sb.2 b (fun z : b = S => hb (by rw [z]; exact List.mem_cons_self))]; exact e
end
end Dl
namespace Dl
open PySem L2 PyProof.Rows PySem.Spec
/-- a new set's object -/
abbrev nset (w : World) : Obj := { cls := .type "set", dict := none, data := .set #[] 0 (.fresh 0 0 (!w.params.followText "set-order")) }
section
variable {P : Program} {w : World} {A : Around} {EE : Value → Shared → Prop} {s : Shared}
/-- what set(x) leaves: the set at the heap's end -/
def SetPost (P : Program) (w : World) (s : Shared) (ks : List (Addr × SK)) (s' : Shared) : Prop := ∃ (h' : Heap) (tk : Nat) (L : List (Addr × SK)) (es : Array (Int × Value)) (ep : Nat) (t : SetTable), s' = { s with heap := h', toks := tk } ∧ SetV P w h' s.heap.objs.size L es ep t ∧ Seen ks ks.length L ∧ ∀ b o, s.heap.get? b = some o → h'.get? b = some o
theorem item_keys {items : Array Value} {ks : List (Addr × SK)} (hit : items.toList = ks.map fun p => Value.ref p.1) (i : Nat) (v : Value) (hv : items[i]? = some v) : ∃ p, ks[i]? = some p ∧ v = .ref p.1 := by
  have q : items.toList[i]? = some v := by rw [Array.getElem?_toList]; exact hv
  rw [hit, List.getElem?_map] at q
  cases hq : ks[i]? with
  | none => rw [hq] at q; cases q
  | some p => rw [hq] at q; exact ⟨p, rfl, (Option.some.inj q).symm⟩
theorem none_above {b : Addr} (hb : s.heap.objs.size ≤ b) : s.heap.get? b = none := by
  cases q : s.heap.get? b with
  | none => rfl
  | some o => exact absurd (Nat.lt_of_lt_of_le (Heap.lt_size q) hb) (Nat.lt_irrefl _)
/-- set.__init__ behind the making: from the iterator on -/
theorem setV_loop {I l : Addr} {items : Array Value} {ks : List (Addr × SK)} {St : Nat → Heap → Prop} {oI : Obj} (hI : I = (s.heap.push (nset w)).objs.size) (W : Walks P w A.in1 I [I, l] [I] items.size (fun i v => items[i]? = some v) St) (st : St 0 ((s.heap.push (nset w)).push oI))
    (hit : items.toList = ks.map fun p => Value.ref p.1) (hk : ∀ p ∈ ks, TIs s.heap p.2 p.1) (few : ks.length < 64) (hu : A.in1.units + 8 < cLine) (hl : l < s.heap.objs.size) {R : Result → Shared → Prop} (hR : ∀ s', SetPost P w s ks s' → R (.ok (.ret .none)) s') :
    codeAny (model P w) A (.builtin "set.update.loop" ⟨[.ref s.heap.objs.size, .ref I], []⟩) R { s with heap := (s.heap.push (nset w)).push oI } := by
  have nI : items.size = ks.length := by
    have q := congrArg List.length hit
    rwa [Array.length_toList, List.length_map] at q
  have eI : I = s.heap.objs.size + 1 := by rw [hI, Heap.size_push]
  refine updateV W.toS s.heap.objs.size ?_ ks nI few (item_keys hit) s.heap hk (none_above (Nat.le_refl _)) (fun b hb => none_above ?_) hu (items.size - 0) 0 _ rfl (Nat.zero_le _) st (fun b o e => Heap.get?_push_of_some _ (Heap.get?_push_of_some _ e)) ⟨[], #[], 0, _, freshV (Heap.get?_push_of_some _ (Heap.get?_push_size _ rfl)), fun p h => (by cases h), fun p h => (by simp at h), Nat.le_refl _⟩ fun s' L es ep t hm R1 g kp => hR s' ?_
  · simp only [List.mem_cons, List.not_mem_nil, or_false, not_or]
    exact ⟨by rw [eI]; exact Nat.ne_of_lt (Nat.lt_succ_self _), Nat.ne_of_gt hl⟩
  · rw [List.mem_singleton.mp hb, eI]; exact Nat.le_succ _
  · obtain ⟨h', g2, d', tk', os'⟩ := s'
    obtain rfl : g2 = s.gens := hm.gens
    obtain rfl : d' = s.drawn := hm.drawn
    obtain rfl : os' = s.os := hm.os
    rw [nI] at g
    exact ⟨h', tk', L, es, ep, t, rfl, R1, g, kp⟩
theorem call_setL {l : Addr} {items : Array Value} (ks : List (Addr × SK)) {Q : Value → Shared → Prop} (hh : A.handled = none) (hl : s.heap.IsList l items) (hit : items.toList = ks.map fun p => Value.ref p.1) (hk : ∀ p ∈ ks, TIs s.heap p.2 p.1) (few : ks.length < 64) (hu : A.units + 16 < cLine)
    (h : ∀ s', SetPost P w s ks s' → Q (.ref s.heap.objs.size) s') : wpAny (model P w) A (call (.type "set") [.ref l]) Q EE s := by
  obtain ⟨c, tl, hmro⟩ := F.called_set.mro
  have hmade := F.called_set.made
  have hsub := F.called_set.sub
  refine wpAny_call (codeAny_of_tree ?_)
  show wpAny _ _ (callAny (.type "set") _) _ _ _
  refine wpAny_pure ⟨Code.quiet_builtin _ (by decide +kernel), codeAny_builtin F.entry_type_call ?_⟩
  rw [Around.under_plain (weight_type_call_type "set" [.ref l] []) rfl]
  have h1 := F.called_set.notType
  have h2 := F.called_set.canCreate
  have hct := F.typeCall_set_1 (.ref l)
  repeat any_goals first | assumption | wp_step
  refine codeAny_mono (code_set_led1 (.ref l) (E := EE) (Q₁ := fun obj t => obj = .ref s.heap.objs.size ∧ t = { s with heap := s.heap.push (nset w) }) ⟨rfl, rfl⟩) fun r t hr => ?_
  match r, hr with
  | .error e, hr => exact hr
  | .ok (.ret obj), hr =>
    obtain ⟨rfl, rfl⟩ := hr
    have hS : (s.heap.push (nset w)).get? s.heap.objs.size = some (nset w) := Heap.get?_push_size _ rfl
    have hT : Shared.TypeIs { s with heap := s.heap.push (nset w) } (.ref s.heap.objs.size) "set" := ⟨_, hS, rfl⟩
    have hli := F.called_set.init.lookup
    have hbi := F.called_set.init.bind (.ref s.heap.objs.size)
    repeat any_goals first | assumption | wp_step
    refine codeAny_mono (codeAny_call_builtin (R := wants (fun r t => r = .none ∧ SetPost P w s ks t) EE) F.called_set.init.plain F.entry_set_init (check_set_init_1 hT ?_)) fun r t hr => ?_
    · obtain ⟨⟨ocls, odict, odata, oslots⟩, hol, hcl, nl, hdl⟩ := hl
      simp only at hcl hdl
      subst hcl; subst hdl
      have hol' : (s.heap.push (nset w)).get? l = some { cls := .type "list", dict := odict, data := .seq items nl, slots := oslots } := Heap.get?_push_of_some _ hol
      have hsls := F.sub_list_set
      have hslf := F.sub_list_frozenset
      have hne : (Value.type "list" == Value.type "dict") = false := by decide
      have there : (s.heap.push (nset w)).IsList l items := ⟨_, hol', rfl, nl, rfl⟩
      have hl0 : l < s.heap.objs.size := Heap.lt_size hol
      unfold Builtin.«set.__init__» noKeywords Builtin.Frozenset.updateFrom
      generalize hPI : pyIter = PI
      wp_walk
      subst hPI
      refine wpAny_pyIter_list there (wpAny_bind (wpAny_runValue ?_))
      refine setV_loop (l := l) (ks := ks) rfl (Walks.list (by simp [hh]) _ l ?_ items) ⟨⟨_, Heap.get?_push_size _ rfl, rfl, rfl⟩, there.push _⟩ hit hk few ?_ hl0 fun s' hp => ?_
      · rw [Heap.size_push]; exact Nat.ne_of_lt (Nat.lt_succ_of_lt hl0)
      · simp only [Around.in1_units]; omega
      · show wpAny _ _ _ _ _ _
        refine wpAny_pure ?_
        show wpAny _ _ (ret Value.none) _ _ _
        exact wpAny_pure ⟨rfl, hp⟩
    · match r, hr with
      | .error e, hr => exact hr
      | .ok (.ret r), hr =>
        obtain ⟨rfl, hp⟩ := hr
        repeat any_goals first | assumption | wp_step
        exact h _ hp
      | .ok .next, hr => exact hr.elim
      | .ok .brk, hr => exact hr.elim
      | .ok .cont, hr => exact hr.elim
  | .ok .next, hr => exact hr.elim
  | .ok .brk, hr => exact hr.elim
  | .ok .cont, hr => exact hr.elim
end
end Dl
namespace Dl
open PySem L2 PyProof.Rows PySem.Spec SrtO Srt
/-! ### the distinct keys, in order -/
def nubS : List SK → List SK
  | [] => []
  | k :: ks => if k ∈ nubS ks then nubS ks else k :: nubS ks
theorem nub_mem : ∀ (ks : List SK) (k : SK), k ∈ nubS ks ↔ k ∈ ks
  | [], k => by simp [nubS]
  | j :: ks, k => by
    unfold nubS
    split
    · rename_i h
      rw [nub_mem ks k, List.mem_cons]
      constructor
      · exact .inr
      · rintro (rfl | h')
        · exact (nub_mem ks k).mp h
        · exact h'
    · rw [List.mem_cons, List.mem_cons, nub_mem ks k]
theorem nub_nodup : ∀ ks : List SK, (nubS ks).Nodup
  | [] => List.nodup_nil
  | k :: ks => by
    unfold nubS
    split
    · exact nub_nodup ks
    · rename_i h; exact List.nodup_cons.mpr ⟨h, nub_nodup ks⟩
def ssK (ks : List SK) : List SK := srtB ltS (nubS ks)
theorem ss_uniq {ks ms : List SK} (hn : ms.Nodup) (hm : ∀ k, k ∈ ms ↔ k ∈ ks) (hs : Srtd ltS ms) : ms = ssK ks := by
  refine srt_one swo_S hs (srtB_srtd swo_S _) (((List.perm_ext_iff_of_nodup hn (nub_nodup ks)).mpr fun k => (hm k).trans (nub_mem ks k).symm).trans (srtB_perm _).symm) fun x _ y _ h1 h2 => ltS_anti x y h1 h2
/-- rows alone -/
def okR (ks : List SK) : Bool := ks.all isRow && ks.all (fun a => ks.all fun b => sameK a b) && ks.all fun a => decide (dpK a ≤ 8)
theorem okR_sub {ks ms : List SK} (h : okR ks = true) (s : ∀ k ∈ ms, k ∈ ks) : okR ms = true := by
  unfold okR at h ⊢
  simp only [Bool.and_eq_true, List.all_eq_true] at h ⊢
  obtain ⟨⟨h1, h2⟩, h3⟩ := h
  exact ⟨⟨fun k m => h1 k (s k m), fun k m j n => h2 k (s k m) j (s j n)⟩, fun k m => h3 k (s k m)⟩
theorem okR_K {ks : List SK} (h : okR ks = true) : okK ks = true := by
  unfold okK
  rw [Bool.or_eq_true]
  exact .inr h
section
variable {P : Program} {w : World} {A : Around} {EE : Value → Shared → Prop} {s : Shared}
theorem all_of {h : Heap} : ∀ {M : List (Addr × SK)}, (∀ p ∈ M, TIs h p.2 p.1) → SAll h (M.map (·.2)) (M.map fun p => Value.ref p.1)
  | [], _ => .nil
  | p :: M, e => .cons (e p List.mem_cons_self).1 (all_of fun q hq => e q (List.mem_cons_of_mem _ hq))
/-- values that are the addresses of L's rows, in some order -/
theorem perm_rows {L : List (Addr × SK)} : ∀ {vs us : List Value}, vs.Perm us → ∀ {M : List (Addr × SK)}, us = M.map (fun p => Value.ref p.1) → ∃ N : List (Addr × SK), vs = N.map (fun p => Value.ref p.1) ∧ N.Perm M := by
  intro vs us p
  induction p with
  | nil => intro M e; exact ⟨M, e, .refl _⟩
  | cons x p ih =>
    intro M e
    cases M with
    | nil => cases e
    | cons q M =>
      rw [List.map_cons] at e
      injection e with e1 e2
      obtain ⟨N, n1, n2⟩ := ih e2
      exact ⟨q :: N, by rw [List.map_cons, n1, e1], n2.cons q⟩
  | swap x y l =>
    intro M e
    match M, e with
    | q :: r :: M, e =>
      rw [List.map_cons, List.map_cons] at e
      injection e with e1 e2
      injection e2 with e2 e3
      exact ⟨r :: q :: M, by rw [List.map_cons, List.map_cons, e1, e2, e3], .swap _ _ _⟩
    | [_], e => cases e
    | [], e => cases e
  | trans p q ih1 ih2 =>
    intro M e
    obtain ⟨N, n1, n2⟩ := ih2 e
    obtain ⟨O, o1, o2⟩ := ih1 n1
    exact ⟨O, o1, o2.trans n2⟩
theorem sorted_setV {a : Addr} {L : List (Addr × SK)} {es : Array (Int × Value)} {ep : Nat} {t : SetTable} {Q : Value → Shared → Prop} (R : SetV P w s.heap a L es ep t) (hh : A.handled = none) (hu : A.units + 16 < cLine) (ok : okK (L.map (·.2)) = true)
    (hQ : ∀ (s' : Shared) (p : Addr) (out : Array Value) (c : Nat) (M : List (Addr × SK)), (∀ b o, s.heap.get? b = some o → s'.heap.get? b = some o) → s'.gens = s.gens → s'.os = s.os → s.heap.objs.size ≤ p → s'.heap.get? p = some (seqObj "list" out c) →
      out.toList = M.map (fun q => Value.ref q.1) → M.Perm L → Srtd ltS (M.map (·.2)) → Q (.ref p) s') : wpAny (model P w) A (call (.builtin "sorted") [.ref a]) Q EE s := by
  obtain ⟨o, ho, hex, hd⟩ := R.ob
  have few := R.few
  have n0 := R.size
  refine Calls.call_function_entry kind_sorted plain_sorted entry_sorted (args_sorted1 _) ?_
  unfold Builtin.«sorted»
  refine wpAny_bind (m := checkCount "sorted" 1 1 _) (wpAny_pure ?_)
  refine wpAny_bind (collect_set (A := A.in1) hh ⟨o, ho, hex.1, hd⟩ R.fits (by unfold scanBound; omega) R.tab.ris R.led fun s1 vs k1 hz g1 o1 pm => ?_)
  have rows : es.toList.map (·.2) = L.map fun p => Value.ref p.1 := by
    rw [R.rows, List.map_map]; rfl
  rw [rows] at pm
  obtain ⟨N, rfl, pN⟩ := perm_rows (L := L) pm rfl
  have nN : N.length = L.length := pN.length_eq
  refine wpAny_bind (wpAny_newList ?_ (by rw [List.length_map, nN, sizeLine_eq]; omega))
  have hoL : (s1.heap.push (seqObj "list" (N.map fun p => Value.ref p.1).toArray 0)).get? s1.heap.objs.size = some (seqObj "list" (N.map fun p => Value.ref p.1).toArray 0) := Heap.get?_push_size _ rfl
  have up : ∀ b u, s.heap.get? b = some u → (s1.heap.push (seqObj "list" (N.map fun p => Value.ref p.1).toArray 0)).get? b = some u := fun b u e => Heap.get?_push_of_some _ (k1 b u e)
  have keysN : ∀ p ∈ N, TIs (s1.heap.push (seqObj "list" (N.map fun p => Value.ref p.1).toArray 0)) p.2 p.1 := fun p hp => (R.keys p (pN.mem_iff.mp hp)).keep up
  have sa := all_of keysN
  have okN : okK (N.map (·.2)) = true := by
    have z := ok
    unfold okK at z ⊢
    simp only [Bool.or_eq_true, Bool.and_eq_true, List.all_eq_true] at z ⊢
    have mem : ∀ k ∈ N.map (·.2), k ∈ L.map (·.2) := fun k hk => (pN.map (·.2)).mem_iff.mp hk
    rcases z with z | ⟨⟨z1, z2⟩, z3⟩
    · exact .inl fun k hk => z k (mem k hk)
    · exact .inr ⟨⟨fun k hk => z1 k (mem k hk), fun k hk j hj => z2 k (mem k hk) j (mem j hj)⟩, fun k hk => z3 k (mem k hk)⟩
  refine wpAny_bind (wpAny_holding (wpAny_call_entry slot_list_sort ⟨_, hoL, rfl⟩ entry_list_sort
    (list_sort_ord (s := { s1 with heap := s1.heap.push (seqObj "list" (N.map fun p => Value.ref p.1).toArray 0) }) (swo_on (kf (s1.heap.push (seqObj "list" (N.map fun p => Value.ref p.1).toArray 0)))) hoL (by rw [List.length_map, nN, sizeLine_eq]; omega)
      (fun h2 => keys_sortable sa h2 okN (by simp only [Around.in1_units]; omega) fun ob e => ?_) fun out o2 o3 => ⟨_, rfl, ?_⟩) (args_list_sort _)))
  · have e' : some ob = some (seqObj "list" (N.map fun p => Value.ref p.1).toArray 0) := e.symm.trans hoL
    cases e'
    intro c
    exact absurd (Value.type.inj c) (by decide)
  · obtain ⟨M, rfl, pM⟩ := perm_rows (L := L) o3.perm rfl
    obtain ⟨c, hc⟩ := sortedHeap_at (vs := N.map fun p => Value.ref p.1) (out := (M.map fun p => Value.ref p.1).toArray) hoL
    refine wpAny_pure ⟨_, rfl, hQ _ s1.heap.objs.size (M.map fun p => Value.ref p.1).toArray c M (fun b u e => ?_) g1 o1 hz hc (by simp) (pM.trans pN) ?_⟩
    · have lt := Heap.lt_size (k1 b u e)
      show (sortedHeap _ _ _ _).get? b = some u
      rw [sortedHeap_old (Nat.ne_of_lt lt) (by rw [size_push']; exact Nat.lt_succ_of_lt lt)]
      exact up b u e
    · refine List.pairwise_map.mpr (List.Pairwise.imp_of_mem (fun {p q} hp hq h => ?_) (List.pairwise_map.mp o2))
      have h : ltS (kf (s1.heap.push (seqObj "list" (N.map fun p => Value.ref p.1).toArray 0)) (Value.ref q.1)) (kf (s1.heap.push (seqObj "list" (N.map fun p => Value.ref p.1).toArray 0)) (Value.ref p.1)) = false := h
      rw [kf_of (keysN p (pM.mem_iff.mp hp)).1, kf_of (keysN q (pM.mem_iff.mp hq)).1] at h
      exact h
end
section
variable {K : PySem.W.Frag} {cl : Str → Addr} {X : Cx} {W : L2.WX} {e : Expr} {f : Ev} {pos p p2 pos2 : Pos}
def skAll (ds : List Dt) : Option (List SK) := (skA ds).bind fun ks => if okR ks && decide (ks.length < 64) then some ks else none
@[simp] def oSortSet : Dt → Option Dt
  | .lst ds => (skAll ds).map fun ks => .lst (dtA (ssK ks))
  | _ => none
theorem row_refs {E : Hp} : ∀ {ks : List SK} {vs : List V}, DnA K cl E vs (dtA ks) → ks.all isRow = true → ∃ L : List (Addr × SK), vs = L.map (fun p => V.ref p.1) ∧ L.map (·.2) = ks ∧ ∀ p ∈ L, Dn K cl E (.ref p.1) (dtS p.2)
  | [], _, h, _ => by cases h; exact ⟨[], rfl, rfl, fun p m => by cases m⟩
  | k :: ks, _, h, r => by
    simp only [List.all_cons, Bool.and_eq_true] at r
    cases h with
    | @cons v vs _ _ h hr =>
      obtain ⟨L, l1, l2, l3⟩ := row_refs hr r.2
      have : ∃ a, v = .ref a := by
        cases k with
        | num i => exact absurd r.1 (by simp [isRow])
        | tup js => cases h; exact ⟨_, rfl⟩
      obtain ⟨a, rfl⟩ := this
      refine ⟨(a, k) :: L, by rw [List.map_cons, l1], by rw [List.map_cons, l2], fun p m => ?_⟩
      rcases List.mem_cons.mp m with rfl | m
      · exact h
      · exact l3 p m
theorem rows_dn {E : Hp} : ∀ {M : List (Addr × SK)}, (∀ p ∈ M, Dn K cl E (.ref p.1) (dtS p.2)) → DnA K cl E (M.map fun p => V.ref p.1) (dtA (M.map (·.2)))
  | [], _ => .nil
  | p :: M, h => .cons (h p List.mem_cons_self) (rows_dn fun q hq => h q (List.mem_cons_of_mem _ hq))
theorem refs_vals : ∀ {L : List (Addr × SK)} {us : List Value}, Vals (L.map fun p => V.ref p.1) us → us = L.map fun p => Value.ref p.1
  | [], _, r => by cases r; rfl
  | p :: L, _, r => by
    rw [List.map_cons] at r
    cases r with
    | cons h t => rw [List.map_cons, refs_vals t]; exact congrArg (· :: _) h
theorem n_sortSet (hc : X.calm = true) (hu : X.A.units + 64 < cLine) (hg : Gl X "sorted") (hm : X.mg "sorted" = none) (hg2 : Gl X "set") (hm2 : X.mg "set" = none) (he : PE X e (tW X.K cl W f))
    (hs1 : starEach [.Call (.Name "set" p2) [e] [] pos2] X.env = (false, eval (.Call (.Name "set" p2) [e] [] pos2) X.env) :: starEach [] X.env := by rfl) (hs2 : starEach [e] X.env = (false, eval e X.env) :: starEach [] X.env := by rfl) :
    PE X (.Call (.Name "sorted" p) [.Call (.Name "set" p2) [e] [] pos2] [] pos) (tN X.K cl W (c1 oSortSet f)) := ⟨fun pins s σ H Q I ⟨E0, H0, E, ρ, r, an⟩ => by
  refine wpAny_Call_Name_kw (ld_blt I hg hm boot_sorted ?_ (by decide) (by decide))
  refine PyProof.Rows.callWith_builtin1 ?_ hs1 (by rfl)
  rw [hs1]
  show wpAny _ _ (spliced ((false, eval (.Call (.Name "set" p2) [e] [] pos2) X.env) :: [])) _ _ s
  refine Calls.spliced_cons (wpAny_Call_Name_kw (ld_blt I hg2 hm2 Pv.boot_set ?_ (by decide) (by decide)))
  refine PyProof.Rows.callWith_type1 ?_ hs2 (by rfl)
  rw [hs2]
  show wpAny _ _ (spliced ((false, eval e X.env) :: [])) _ _ s
  refine Calls.spliced_cons (thn (he.run pins s σ H (fun v H1 => ∃ a xs E1 ds ks, v = .ref a ∧ SqL X.K H1 a xs ∧ Gr E H E1 H1 ∧ DnA X.K cl E1 xs ds ∧ skAll ds = some ks ∧ ∀ v E' H', Gr E H E' H' → Nw X.K cl H E' H' v (.lst (dtA (ssK ks))) → Q v H') I ⟨E0, H0, E, ρ, r, (An.bind an).imp fun dd k v E1 H1 g1 s1 => ?_⟩) fun u s1 ⟨x, H1, I1, r1, q⟩ => Calls.spliced_nil ?_)
  · obtain ⟨z, hz, k⟩ := An.ofO k
    cases dd with
    | lst ds =>
      have hz : (skAll ds).map (fun ks => Dt.lst (dtA (ssK ks))) = some z := hz
      cases qk : skAll ds with
      | none => rw [qk] at hz; cases hz
      | some ks =>
        rw [qk] at hz; cases hz
        obtain ⟨a, vs, rfl, hs, hr⟩ := s1.items g1.eh
        exact ⟨a, vs, E1, ds, ks, rfl, hs, g1, hr, qk, k⟩
    | _ => cases hz
  · obtain ⟨a, xs, E1, ds, ks, ex, hs, g1, hd, hk, k⟩ := q
    subst ex
    have eu : u = Value.ref a := r1
    subst eu
    unfold skAll at hk
    cases qs : skA ds with
    | none => rw [qs] at hk; cases hk
    | some ks' =>
    rw [qs] at hk
    have hk : (if okR ks' && decide (ks'.length < 64) then some ks' else none) = some ks := hk
    split at hk
    · rename_i okc
      cases hk
      rw [Bool.and_eq_true] at okc
      have ok := okc.1
      have few := of_decide_eq_true okc.2
      rw [skA_eq qs] at hd
      have rows : ks.all isRow = true := by
        have z := ok
        unfold okR at z
        rw [Bool.and_eq_true, Bool.and_eq_true] at z
        exact z.1.1
      have deep : ∀ j ∈ ks, dpK j ≤ 8 := by
        have z := ok
        unfold okR at z
        rw [Bool.and_eq_true] at z
        exact fun j m => of_decide_eq_true (List.all_eq_true.mp z.2 j m)
      obtain ⟨L0, rfl, l2, l3⟩ := row_refs hd rows
      obtain ⟨its, rv, hl, hz⟩ := I1.list hs
      have keys0 : ∀ p ∈ L0, TIs s1.heap p.2 p.1 := fun p m => ⟨sis_of I1 g1.eh (l3 p m) rfl, deep _ (by rw [← l2]; exact List.mem_map.mpr ⟨p, m, rfl⟩)⟩
      have n0 : L0.length = ks.length := by have := congrArg List.length l2; simpa using this
      refine call_setL L0 (I1.ok.hd hc) hl.isList (by simpa using refs_vals rv) keys0 (by omega) (by omega) fun s2 hpost => ?_
      obtain ⟨h2, tk2, L, es, ep, t, rfl, R, g, kp⟩ := hpost
      have subL : ∀ p ∈ L, p ∈ L0 := fun p hp => List.mem_of_mem_take (g.sub p hp)
      have I2 : Inv X pins σ H1 { s1 with heap := h2, toks := tk2 } := I1.kept kp
      refine Calls.spliced_nil ?_
      refine sorted_setV (s := { s1 with heap := h2, toks := tk2 }) R (I2.ok.hd hc) (by omega) (okR_K (okR_sub ok fun j hj => ?_)) fun s3 pp out c M kp3 g3 o3 hp3 hg3 hout pM so => ?_
      · obtain ⟨p, m, rfl⟩ := List.mem_map.mp hj
        rw [← l2]; exact List.mem_map.mpr ⟨p, subL p m, rfl⟩
      · have hn : H1 pp = none := I2.hok.fresh hp3
        have em : M.map (·.2) = ssK ks := by
          refine ss_uniq ((pM.map (·.2)).nodup_iff.mpr R.nd) (fun j => ?_) so
          rw [(pM.map (·.2)).mem_iff]
          constructor
          · intro hj
            obtain ⟨p, m, rfl⟩ := List.mem_map.mp hj
            rw [← l2]; exact List.mem_map.mpr ⟨p, subL p m, rfl⟩
          · intro hj
            rw [← l2] at hj
            obtain ⟨p, m, rfl⟩ := List.mem_map.mp hj
            exact g.all p (by rw [List.take_length]; exact m)
        have nM : M.length < 64 := by rw [pM.length_eq]; exact R.few
        have hv : Vals (M.map fun p => V.ref p.1) out.toList := by
          rw [hout]
          clear hout em so pM
          induction M with
          | nil => exact .nil
          | cons p M ih => exact .cons rfl (ih (by simp only [List.length_cons] at nM; omega))
        have J : Inv X pins σ (upd H1 pp (.lst (M.map fun p => V.ref p.1))) { ({ s1 with heap := h2, toks := tk2 } : Shared) with heap := s3.heap, gens := s3.gens, drawn := s3.drawn, toks := s3.toks } :=
          I2.call (ch := []) (Un.laid kp3 hp3 hn) (I2.hok.laid kp3 hp3 ⟨by rw [List.length_map, sizeLine_eq]; omega, out.toList, c, hv, hg3⟩) (by rw [g3]; exact I2.bare) (fun _ z => nomatch z)
        have es3 : s3 = { ({ s1 with heap := h2, toks := tk2 } : Shared) with heap := s3.heap, gens := s3.gens, drawn := s3.drawn, toks := s3.toks } := by
          obtain ⟨a1, a2, a3, a4, a5⟩ := s3
          have o3 : a5 = s1.os := o3
          subst o3
          rfl
        rw [es3]
        obtain ⟨g4, w4⟩ := new_lst (K := X.K) (cl := cl) g1.eh (rows_dn fun p m => l3 p (subL p (pM.mem_iff.mp m))) hn
        rw [em] at w4
        exact ⟨.ref pp, _, J, rfl, k _ _ _ (g1.trans g4) (coN _ _ _ _ _ _ _ _ g1 w4)⟩
    · cases hk⟩
end
end Dl
namespace Dl
open PySem L2 PyProof.Rows
section
variable {K : PySem.W.Frag} {cl : Str → Addr} {X : Cx} {W : L2.WX} {elt tg iter tg1 iter1 : Expr} {ifs ifs1 : List Expr} {f : Ev} {t t1 : Tv} {pos p p2 : Pos} {n : Str}
/-! ### comprehensions with two for's -/
def goLc2 (own1 : List Nat) (tg : Gv) (t : Tv) (src1 : Av) (tg1 : Gv) (t1 : Tv) (f : Ev) : List Dt → List Sl → Rs (List Dt)
  | [], _ => .ok []
  | d :: ds, ρ => match tg d ρ with
    | none => .st
    | some ρ1 => match t ρ1 with
      | .ok true => (match src1 ρ1 with
        | .ok es => (match goLc tg1 t1 f es (fgt own1 ρ1) with
          | .ok r => (goLc2 own1 tg t src1 tg1 t1 f ds ρ).bind fun r' => .ok (r ++ r')
          | _ => .st)
        | _ => .st)
      | .ok false => goLc2 own1 tg t src1 tg1 t1 f ds ρ
      | _ => .st
theorem goLc2_cons {own1 : List Nat} {tg : Gv} {t : Tv} {src1 : Av} {tg1 : Gv} {t1 : Tv} {f : Ev} {d : Dt} {ds : List Dt} {ρ : List Sl} : goLc2 own1 tg t src1 tg1 t1 f (d :: ds) ρ = match tg d ρ with
    | none => .st
    | some ρ1 => match t ρ1 with
      | .ok true => (match src1 ρ1 with
        | .ok es => (match goLc tg1 t1 f es (fgt own1 ρ1) with
          | .ok r => (goLc2 own1 tg t src1 tg1 t1 f ds ρ).bind fun r' => .ok (r ++ r')
          | _ => .st)
        | _ => .st)
      | .ok false => goLc2 own1 tg t src1 tg1 t1 f ds ρ
      | _ => .st := rfl
@[simp] def cLc2 (own own1 : List Nat) (src : Av) (tg : Gv) (t : Tv) (src1 : Av) (tg1 : Gv) (t1 : Tv) (f : Ev) : Ev := fun ρ => (src ρ).bind fun ds => match goLc2 own1 tg t src1 tg1 t1 f ds (fgt own ρ) with
  | .ok r => if r.length ≤ lim then .ok (.lst r) else .st
  | _ => .st
/-- behind what is told already -/
abbrev More (r : Rs (List Dt)) (acc out : List Dt) : Prop := r.bind (fun r => Rs.ok (acc ++ r)) = .ok out
theorem More.ok {r : Rs (List Dt)} {acc out : List Dt} (h : More r acc out) : ∃ l, r = .ok l ∧ acc ++ l = out := by
  cases r with
  | st => cases h
  | ex n => cases h
  | ok l => cases h; exact ⟨l, rfl, rfl⟩
def delL (H : Hp) (L : Addr) : Hp := fun a => if a = L then none else H a
theorem delL_same {H : Hp} {L : Addr} : delL H L L = none := by unfold delL; rw [if_pos rfl]
theorem delL_ne {H : Hp} {L a : Addr} (h : a ≠ L) : delL H L a = H a := by unfold delL; rw [if_neg h]
theorem delL_back {H : Hp} {L : Addr} {o : HO} (h : H L = some o) : upd (delL H L) L o = H := by
  funext a
  by_cases q : a = L
  · subst q; rw [upd_same, h]
  · rw [upd_ne q, delL_ne q]
theorem Gr.del {E H E' H' : Hp} {L : Addr} {acc : List V} (g : Gr E H E' H') (n : H L = none) (n' : E' L = none) (hL : H' L = some (.lst acc)) : Gr E H E' (delL H' L) where
  ee := g.ee
  hh := fun a o e => by
    rw [delL_ne (ne_of_none e n)]; exact g.hh a o e
  tb := fun P t => by
    obtain ⟨ps, hP, ht, ha⟩ := g.tb P t
    refine ⟨ps, by rw [delL_ne (fun z => by subst z; rw [hL] at hP; cases hP)]; exact hP, ht, fun pos cv hc => ?_⟩
    obtain ⟨c, e, hC⟩ := ha pos cv hc
    exact ⟨c, e, by rw [delL_ne (fun z => by subst z; rw [hL] at hC; cases hC)]; exact hC⟩
  nt := g.nt
  eh := fun a o e => by
    rw [delL_ne (fun z => by subst z; rw [n'] at e; cases e)]; exact g.eh a o e
  nw := g.nw
  im := fun a o q1 q2 q3 => by
    by_cases q : a = L
    · subst q; rw [delL_same] at q2; cases q2
    · rw [delL_ne q] at q2; exact g.im a o q1 q2 q3
theorem Rl.del {E0 H0 E H : Hp} {σ : L2.St} {ρ : List Sl} {L : Addr} {acc : List V} (r : Rl K cl E0 H0 E H σ ρ) (n : H0 L = none) (n' : E L = none) (hL : H L = some (.lst acc)) (away : ∀ (i : Nat) d a, ρ[i]? = some (.ow d) → σ[i]? = some (some (.ref a)) → a ≠ L) : Rl K cl E0 H0 E (delL H L) σ ρ where
  sb0 := r.sb0
  tb0 := r.tb0
  gr := r.gr.del n n' hL
  len := r.len
  va := r.va
  ow := fun i d q => by
    obtain ⟨a, h1, h2, h3, h4⟩ := r.ow i d q
    have ha := away i d a q h1
    refine ⟨a, h1, h2, h3, ?_⟩
    cases d with
    | lst ds => obtain ⟨vs, p1, p2⟩ := h4; exact ⟨vs, by rw [delL_ne ha]; exact p1, p2⟩
    | dct ds => obtain ⟨vs, p1, p2⟩ := h4; exact ⟨vs, by rw [delL_ne ha]; exact p1, p2⟩
    | obj c ds => obtain ⟨dx, vs, p1, p2⟩ := h4; exact ⟨dx, vs, by rw [delL_ne ha]; exact p1, p2⟩
    | _ => exact h4.elim
  ne := r.ne
  pn := r.pn
theorem wipe_off : ∀ (vs : List Nat) (σ : L2.St) (i : Nat), i ∉ vs → (wipe σ vs)[i]? = σ[i]?
  | [], σ, i, _ => rfl
  | j :: vs, σ, i, h => by
    have h1 : i ≠ j := fun z => h (by rw [z]; exact List.mem_cons_self)
    show ((wipe σ vs).set j none)[i]? = _
    rw [List.getElem?_set_ne (Ne.symm h1)]
    exact wipe_off vs σ i fun z => h (List.mem_cons_of_mem _ z)
/-- a target owns nothing -/
def OwBack (gt : Gv) : Prop := ∀ d ρ ρ', gt d ρ = some ρ' → ∀ (i : Nat) e, ρ'[i]? = some (.ow e) → ρ[i]? = some (.ow e)
theorem lc2_ {src src1 : Av} {vs own vs1 own1 : List Nat} {gt gt1 : Gv} (hob : OwBack gt) (hv : ∀ i ∈ vs, i ∈ own) (hv1 : ∀ i ∈ vs1, i ∈ own1) (σ : L2.St) (H : Hp) (Q : VK) (q : tN K cl W (cLc2 own own1 src gt t src1 gt1 t1 f) σ H Q) :
    tLc2 (tI K cl W src) (tTg K cl vs gt) (tTs K cl t) (tI K cl (fun _ _ _ _ => False) src1) (tTg K cl vs1 gt1) (tTs K cl t1) (tD K cl (fun _ _ _ _ => False) f) own own1 σ H Q := by
  obtain ⟨E0, H0, E, ρ, r, k⟩ := q
  refine ⟨E0, H0, E, ρ, r, (An.bind k).imp fun ds k J E1 H1 g1 wk L nL => ?_⟩
  cases full : goLc2 own1 gt t src1 gt1 t1 f ds (fgt own ρ) with
  | st => rw [full] at k; exact k.elim
  | ex n => rw [full] at k; exact k.elim
  | ok out =>
  rw [full] at k
  obtain ⟨hlim, k⟩ := An.ite k
  have r1 := r.grow g1
  have nE1 : E1 L = none := r1.gr.eh.fresh nL
  have lstN : ∀ {H' : Hp} {acc : List V}, H' L = some (.lst acc) → ∀ u, H' L = some u → (∀ ps, u ≠ .tbl ps) ∧ ∀ c q, u ≠ LamX.CodeO c q := fun e u e' => by
    rw [e] at e'; cases e'; exact ⟨fun _ z => (nomatch z), fun _ _ z => nomatch z⟩
  refine ⟨fun i m H2 => m = ds.length - i ∧ i ≤ ds.length ∧ ∃ E2 acc accD, Gr E1 H1 E2 H2 ∧ E2 L = none ∧ H2 L = some (.lst acc) ∧ DnA K cl E2 acc accD ∧ More (goLc2 own1 gt t src1 gt1 t1 f (ds.drop i) (fgt own ρ)) accD out,
    ⟨_, rfl, Nat.zero_le _, E1, [], [], (Gr.refl r1.gr.eh).wr nL nE1 (fun z => z) (fun u e => by rw [nL] at e; cases e), nE1, upd_same, .nil, by show Rs.bind _ _ = _; rw [List.drop_zero, full]; rfl⟩, ?_⟩
  rintro i m H2 ⟨rfl, hi, E2, acc, accD, g2, n2, hL, hA, eq⟩
  have r2 := r1.grow g2
  by_cases hlt : i < ds.length
  · refine .inr ⟨wk.go i E2 H2 g2.ee r2.gr.eh hlt, fun H' => ∃ E2 acc accD, Gr E1 H1 E2 H' ∧ E2 L = none ∧ H' L = some (.lst acc) ∧ DnA K cl E2 acc accD ∧ More (goLc2 own1 gt t src1 gt1 t1 f (ds.drop (i + 1)) (fgt own ρ)) accD out, fun H' n => ⟨_, by omega, rfl, hlt, n⟩, fun y H3 hy => ?_⟩
    obtain ⟨E3, g3, hx⟩ := wk.yld i E2 H2 y H3 _ g2.ee r2.sb hy (List.getElem?_eq_getElem hlt)
    have r3 := (r2.grow g3).wipe own own (fun _ h => h)
    obtain ⟨l, el, eo⟩ := eq.ok
    rw [List.drop_eq_getElem_cons hlt, goLc2_cons] at el
    cases zt0 : gt ds[i] (fgt own ρ) with
    | none => rw [zt0] at el; cases el
    | some ρ1 =>
    rw [zt0] at el
    dsimp only at el
    refine ⟨E0, H0, E3, _, _, ρ1, r3, hx, zt0, fun σ' r4 hw => ⟨by rw [hw own hv, wipe2], E0, H0, E3, ρ1, r4, ?_⟩⟩
    cases zt : t ρ1 with
    | st => rw [zt] at el; cases el
    | ex n => rw [zt] at el; cases el
    | ok bo =>
    rw [zt] at el
    intro E4 H4 g4
    have g34 := g3.trans g4
    have n4 : E4 L = none := g34.nw L (by rw [hL]; simp) n2
    have h4L : H4 L = some (.lst acc) := g34.hh.nt hL (fun _ z => nomatch z)
    cases bo with
    | false => exact iteF ⟨E4, acc, accD, g2.trans g34, n4, h4L, hA.mono g34.ee, by show Rs.bind _ _ = _; rw [show goLc2 own1 gt t src1 gt1 t1 f (ds.drop (i + 1)) (fgt own ρ) = .ok l from el]; exact congrArg Rs.ok eo⟩
    | true =>
      dsimp only at el
      refine iteT ⟨E0, H0, E4, ρ1, r4.grow g4, ?_⟩
      cases zs : src1 ρ1 with
      | st => rw [zs] at el; cases el
      | ex n => rw [zs] at el; cases el
      | ok es =>
      rw [zs] at el
      dsimp only at el
      cases zg : goLc gt1 t1 f es (fgt own1 ρ1) with
      | st => rw [zg] at el; cases el
      | ex n => rw [zg] at el; cases el
      | ok r0 =>
      rw [zg] at el
      obtain ⟨l', el', e'⟩ := More.ok (acc := r0) (out := l) el
      intro J1 E5 H5 g5 wk1
      have r5 := (r4.grow g4).grow g5
      have g45 := g34.trans g5
      have n5 : E5 L = none := g5.nw L (by rw [h4L]; simp) n4
      have h5L : H5 L = some (.lst acc) := g5.hh.nt h4L (fun _ z => nomatch z)
      have nH0 : H0 L = none := r1.gr.fresh nL
      have away : ∀ (i : Nat) d a, ρ1[i]? = some (.ow d) → σ'[i]? = some (some (.ref a)) → a ≠ L := fun x d a q1 q2 z => by
        have q3 := hob _ _ _ zt0 x d q1
        have off : x ∉ own := fun m => by
          rcases fgt_in own ρ x m with q | q <;> rw [q] at q3 <;> cases q3
        have q4 : σ'[x]? = σ[x]? := by
          have w := congrArg (fun τ : L2.St => τ[x]?) (hw own hv)
          have w : (wipe σ' own)[x]? = (wipe (wipe σ own) own)[x]? := w
          rw [wipe_off own _ _ off, wipe_off own _ _ off, wipe_off own _ _ off] at w
          exact w
        rw [q4] at q2
        have q5 : ρ[x]? = some (.ow d) := by rw [fgt_off own ρ x off] at q3; exact q3
        obtain ⟨b, b1, _, _, b4⟩ := r1.ow x d q5
        rw [q2] at b1; cases b1
        obtain ⟨o, ho, _⟩ := b4.there
        rw [z, nL] at ho; cases ho
      have rd := r5.del nH0 n5 h5L away
      have g15 : Gr E1 H1 E5 (delL H5 L) := (g2.trans g45).del nL n5 h5L
      have start : Gr E5 (delL H5 L) E5 H5 := by
        have z := Gr.one (o := .lst acc) rd.gr.eh (delL_same (H := H5) (L := L)) (fun z => z)
        rwa [delL_back h5L] at z
      -- the inner walk
      refine ⟨fun j m H6 => m = es.length - j ∧ j ≤ es.length ∧ ∃ E6 acc6 accD6, Gr E5 (delL H5 L) E6 H6 ∧ E6 L = none ∧ H6 L = some (.lst acc6) ∧ DnA K cl E6 acc6 accD6 ∧ More (goLc gt1 t1 f (es.drop j) (fgt own1 ρ1)) accD6 (accD ++ r0),
        ⟨_, rfl, Nat.zero_le _, E5, acc, accD, start, n5, h5L, (hA.mono g34.ee).mono g5.ee, by show Rs.bind _ _ = _; rw [List.drop_zero, zg]; rfl⟩, ?_⟩
      rintro j m H6 ⟨rfl, hj, E6, acc6, accD6, g6, n6, h6L, hA6, eq6⟩
      have r6 := rd.grow g6
      by_cases hlt1 : j < es.length
      · refine .inr ⟨wk1.go j E6 H6 g6.ee r6.gr.eh hlt1, fun H' => ∃ E6 acc6 accD6, Gr E5 (delL H5 L) E6 H' ∧ E6 L = none ∧ H' L = some (.lst acc6) ∧ DnA K cl E6 acc6 accD6 ∧ More (goLc gt1 t1 f (es.drop (j + 1)) (fgt own1 ρ1)) accD6 (accD ++ r0), fun H' n => ⟨_, by omega, rfl, hlt1, n⟩, fun y1 H7 hy1 => ?_⟩
        obtain ⟨E7, g7, hx1⟩ := wk1.yld j E6 H6 y1 H7 _ g6.ee r6.sb hy1 (List.getElem?_eq_getElem hlt1)
        have r7 := (r6.grow g7).wipe own1 own1 (fun _ h => h)
        obtain ⟨l6, el6, eo6⟩ := eq6.ok
        rw [List.drop_eq_getElem_cons hlt1, goLc_cons] at el6
        cases z1 : gt1 es[j] (fgt own1 ρ1) with
        | none => rw [z1] at el6; cases el6
        | some ρ2 =>
        rw [z1] at el6
        dsimp only at el6
        refine ⟨E0, H0, E7, _, _, ρ2, r7, hx1, z1, fun σ'' r8 hw1 => ⟨by rw [hw1 own1 hv1, wipe2], E0, H0, E7, ρ2, r8, ?_⟩⟩
        cases zt1 : t1 ρ2 with
        | st => rw [zt1] at el6; cases el6
        | ex n => rw [zt1] at el6; cases el6
        | ok bo1 =>
        rw [zt1] at el6
        intro E8 H8 g8
        have g78 := g7.trans g8
        have n8 : E8 L = none := g78.nw L (by rw [h6L]; simp) n6
        have h8L : H8 L = some (.lst acc6) := g78.hh.nt h6L (fun _ z => nomatch z)
        cases bo1 with
        | false => exact iteF ⟨E8, acc6, accD6, g6.trans g78, n8, h8L, hA6.mono g78.ee, by show Rs.bind _ _ = _; rw [show goLc gt1 t1 f (es.drop (j + 1)) (fgt own1 ρ1) = .ok l6 from el6]; exact congrArg Rs.ok eo6⟩
        | true =>
          dsimp only at el6
          refine iteT ⟨E0, H0, E8, ρ2, r8.grow g8, ?_⟩
          cases ze : f ρ2 with
          | st => rw [ze] at el6; cases el6
          | ex n => rw [ze] at el6; cases el6
          | ok y2 =>
          rw [ze] at el6
          obtain ⟨l7, el7, e7⟩ := More.ok (acc := [y2]) (out := l6) el6
          intro v E9 H9 g9 hd
          have g79 := g78.trans g9
          have n9 : E9 L = none := g9.nw L (by rw [h8L]; simp) n8
          have h9L := g9.hh.nt h8L (fun _ z => nomatch z)
          refine ⟨acc6, h9L, ?_, E9, acc6 ++ [v], accD6 ++ [y2], ?_, n9, upd_same, (hA6.mono g79.ee).append (.one hd), ?_⟩
          · rw [hA6.length]
            refine lim_lt ?_
            have s1 : accD6.length ≤ (accD ++ r0).length := by rw [← eo6]; simp
            have s2 : (accD ++ r0).length ≤ out.length := by rw [← eo, ← e']; simp
            omega
          · exact (g6.trans g79).wr delL_same n9 (fun z => z) (lstN h9L)
          · show Rs.bind _ _ = _
            rw [el7]
            show Rs.ok (accD6 ++ [y2] ++ l7) = _
            rw [← eo6, ← e7]; simp
      · have e : j = es.length := by omega
        subst e
        obtain ⟨l6, el6, eo6⟩ := eq6.ok
        rw [List.drop_length] at el6
        cases el6
        rw [List.append_nil] at eo6
        subst eo6
        refine .inl ⟨wk1.stop E6 H6 g6.ee r6.gr.eh, E6, acc6, _, g15.trans g6, n6, h6L, hA6, ?_⟩
        show Rs.bind _ _ = _
        rw [el']
        show Rs.ok (accD ++ r0 ++ l') = _
        rw [← eo, ← e']; simp
  · have e : i = ds.length := by omega
    subst e
    obtain ⟨l, el, eo⟩ := eq.ok
    rw [List.drop_length] at el
    cases el
    rw [List.append_nil] at eo
    subst eo
    exact .inl ⟨wk.stop E2 H2 g2.ee r2.gr.eh, k _ E2 H2 (g1.trans g2) ⟨L, rfl, g1.fresh nL, n2, acc, hL, hA⟩⟩
theorem ob_name {i : Nat} : OwBack (gN i) := fun d ρ ρ' h j e q => by
  have h : some (ρ.set i (.va d)) = some ρ' := h
  cases h
  by_cases z : i = j
  · subst z
    by_cases hl : i < ρ.length
    · rw [List.getElem?_set_self hl] at q; cases q
    · rw [List.getElem?_eq_none (by simpa using hl)] at q; cases q
  · rwa [List.getElem?_set_ne z] at q
def OwBacks (ts : Gvs) : Prop := ∀ ds ρ ρ', ts ds ρ = some ρ' → ∀ (i : Nat) e, ρ'[i]? = some (.ow e) → ρ[i]? = some (.ow e)
theorem ob_nil : OwBacks gsNil := fun ds ρ ρ' h j e q => by
  cases ds with
  | nil => cases h; exact q
  | cons d ds => cases h
theorem ob_cons {t : Gv} {ts : Gvs} (h1 : OwBack t) (h2 : OwBacks ts) : OwBacks (gsCons t ts) := fun ds ρ ρ' h j e q => by
  cases ds with
  | nil => cases h
  | cons d ds =>
    have h : (t d ρ).bind (fun ρ' => ts ds ρ') = some ρ' := h
    cases z : t d ρ with
    | none => rw [z] at h; cases h
    | some ρ1 => rw [z] at h; exact h1 d ρ ρ1 z j e (h2 ds ρ1 ρ' h j e q)
theorem ob_tup {ts : Gvs} (h : OwBacks ts) : OwBack (gT ts) := fun d ρ ρ' q j e z => by
  unfold gT at q
  split at q
  · exact h _ _ _ q j e z
  · cases q
theorem n_lc2 {scope : Scope} {own : List (Str × Nat)} {own1 vs vs1 : List Nat} {src src1 : Av} {gt gt1 : Gv} (hob : OwBack gt) (hv : ∀ i ∈ vs, i ∈ own.map (·.2)) (hv1 : ∀ i ∈ vs1, i ∈ own1) (hsub : ∀ i ∈ own1, i ∈ own.map (·.2)) (hc : X.calm = true) (hN : X.N.Nodup) (hi : PI X tg iter (tI X.K cl W src)) (ok : BlkOk X.N X.env.scope scope own)
    (hg : ∀ (s : Shared) (H : Hp) (C : Addr) (cs : List (Str × Addr)) (fp : List Addr), PG (X.blk s H scope (compEnvC scope cs C X.env) fp) tg (tTg X.K cl vs gt))
    (ht : ∀ (s : Shared) (H : Hp) (C : Addr) (cs : List (Str × Addr)) (fp : List Addr), PTs (X.blk s H scope (compEnvC scope cs C X.env) fp) ifs (tTs X.K cl t))
    (hi1 : ∀ (s : Shared) (H : Hp) (C : Addr) (cs : List (Str × Addr)) (fp : List Addr), PI (X.blk s H scope (compEnvC scope cs C X.env) fp) tg1 iter1 (tI X.K cl (fun _ _ _ _ => False) src1))
    (hg1 : ∀ (s : Shared) (H : Hp) (C : Addr) (cs : List (Str × Addr)) (fp : List Addr), PG (X.blk s H scope (compEnvC scope cs C X.env) fp) tg1 (tTg X.K cl vs1 gt1))
    (ht1 : ∀ (s : Shared) (H : Hp) (C : Addr) (cs : List (Str × Addr)) (fp : List Addr), PTs (X.blk s H scope (compEnvC scope cs C X.env) fp) ifs1 (tTs X.K cl t1))
    (he : ∀ (s : Shared) (H : Hp) (C : Addr) (cs : List (Str × Addr)) (fp : List Addr), PE (X.blk s H scope (compEnvC scope cs C X.env) fp) elt (tD X.K cl (fun _ _ _ _ => False) f))
    (hs : ∀ x, foldedSetIterable iter X.env x = pure x := by intro _; rfl) (hs1 : ∀ env x, foldedSetIterable iter1 env x = pure x := by intro _ _; rfl) :
    PE X (.ListComp elt [⟨tg, iter, ifs, 0⟩, ⟨tg1, iter1, ifs1, 0⟩] scope pos) (tN X.K cl W (cLc2 (own.map (·.2)) own1 src gt t src1 gt1 t1 f)) :=
  PE.imp (pe_lc2 hc hN hi ok hsub hg ht hi1 hg1 ht1 he hs hs1) (lc2_ hob hv hv1)
end
end Dl
namespace Dl
open PySem L2 PyProof.Rows PySem.W LamX
section
variable {prog : Program} {w : World} {A : Around} {EE : Value → Shared → Prop} {s : Shared}
/-! ### (len(x), x) -/
theorem pair_body {env : Env} {x : Str} {t : Addr} {items : Array Value} {m mg mb : Str → Option Value} {p1 p2 p3 p4 p5 : Pos} {k : Nat} {Q : Value → Shared → Prop} (hk : env.scope.kind = .function) (hx : env.kindOf x = some .local) (hn : s.heap.Ns env.locals m) (hm : m x = some (.ref t))
    (hl : env.kindOf "len" = some .globalImplicit) (hg : s.heap.Ns env.globals mg) (hmiss : mg "len" = none) (hb : s.heap.Ns env.builtins mb) (hbl : mb "len" = some (.builtin "len")) (ht : IsTup s.heap t items) (hz : (items.size : Int) < 2 ^ 63) (hd : (x == ("__debug__" : Str)) = false)
    (h : ∀ tk n, Q (.ref s.heap.objs.size) { s with heap := s.heap.push { cls := .type "tuple", data := .seq [Value.int items.size n, .ref t].toArray }, toks := tk }) :
    wpAny (model prog w) A (eval (.Tuple [.Call (.Name "len" p1) [.Name x p2] [] p3, .Name x p4] k p5) env) Q EE s := by
  have name : ∀ {A : Around} {EE : Value → Shared → Prop} {p : Pos} {Q : Value → Shared → Prop} {tk : Nat}, Q (.ref t) { s with toks := tk } → wpAny (model prog w) A (eval (.Name x p) env) Q EE { s with toks := tk } := fun {A EE p Q tk} q =>
    wpAny_Name (wpAny_loadName_local hk hx hn hm q) hd
  refine wpAny_Tuple_spliced ?_
  show wpAny _ _ (spliced ((false, eval (.Call (.Name "len" p1) [.Name x p2] [] p3) env) :: (false, eval (.Name x p4) env) :: [])) _ _ s
  refine Calls.spliced_cons (wpAny_Call_Name_kw (Calls.Name_function_global hk hl (Calls.loadGlobal_builtin hg hmiss hb hbl ?_)))
  refine PyProof.Rows.callWith_builtin1 ?_ (by rfl) (by rfl)
  show wpAny _ _ (spliced ((false, eval (.Name x p2) env) :: [])) _ _ _
  refine Calls.spliced_cons (name (tk := s.toks) (Calls.spliced_nil (len_tuple ht hz ?_)))
  refine Calls.spliced_cons (name (tk := s.toks + 1 + 1) (Calls.spliced_nil ⟨by show 2 ≤ sizeLine; decide, h _ _⟩))
/-! ### the call of such a lambda -/
theorem reads_ints {h : Heap} : ∀ {us : List Value} {ns : List Int}, IntsAre us ns → ReadsAll h us (ns.map PyData.int) []
  | _, _, .nil => .nil
  | _, _, .cons n t r => by
    have := ReadsAll.cons (bs := []) (Reads.int (h := h) n t) (reads_ints r)
    simpa using this
theorem lam_turn {f c' t : Addr} {qual x : Str} {params : Arguments} {scope : Scope} {pm ctv : Value} {items : Array Value} {ns : List Int} {mg mb : Str → Option Value} {p1 p2 p3 p4 p5 : Pos} {k : Nat}
    (ho : s.heap.get? f = some (kla_obj "<lambda>" qual params (.Tuple [.Call (.Name "len" p1) [.Name x p2] [] p3, .Name x p4] k p5) scope [] pm c' ctv)) (hcd : s.heap.CodeRec (.ref c') qual) (hroom : A.depth < recursionLimit)
    (hbind : ∀ u : Value, bindArgs (kla_fn "<lambda>" qual params (.Tuple [.Call (.Name "len" p1) [.Name x p2] [] p3, .Name x p4] k p5) scope [] pm (.ref c') ctv) ⟨[u], []⟩ = pure [(x, u)])
    (hco : scope.isCoroutine = false) (hgen : scope.isGenerator = false) (hk : scope.kind = .function) (hcell : ∀ y ∈ scope.names, y.2 ≠ .cell) (hx : scope.names.lookup x = some .local) (hlen : scope.names.lookup ("len" : Str) = some .globalImplicit) (hd : (x == ("__debug__" : Str)) = false)
    (lim : s.heap.NoLimit) (hg : s.heap.Ns mainGlobals mg) (hmiss : mg "len" = none) (hb : s.heap.Ns builtinsNs mb) (hbl : mb "len" = some (.builtin "len")) (ht : IsTup s.heap t items) (hi : IntsAre items.toList ns) (hz : (items.size : Int) < 2 ^ 63) :
    wpAny (model prog w) A (call (.ref f) [.ref t]) (KeyPure (.tuple [.int ns.length, .tuple (ns.map PyData.int)]) s) (fun _ _ => False) s := by
  refine wpAny_call (kla_callFunE hroom ho rfl hco hgen rfl hcd ?_)
  rw [hbind]
  refine wpAny_pure (wpAny_newFunctionEnv hcell (fun y hy => ?_) (fun h₁ hns hsb => ⟨lim.fresh _ hsb, kla_codeExpr ?_⟩) hk)
  · rw [List.mem_singleton.mp hy]; exact hx
  have kp : ∀ b o, s.heap.get? b = some o → h₁.get? b = some o := fun b o e => hsb.extBut b o (Nat.ne_of_lt (Heap.lt_size e)) (Heap.get?_push_of_some _ e)
  obtain ⟨ot, h1, h2, n3, h3⟩ := id ht
  refine pair_body (s := { s with heap := h₁, toks := s.toks + 1 }) (m := fun y => [(x, Value.ref t)].reverse.lookup y) (mg := mg) (mb := mb) (t := t) (items := items) hk hx hns (by simp) hlen (hg.keeps kp) hmiss (hb.keeps kp) hbl ⟨ot, kp _ _ h1, h2, n3, h3⟩ hz hd fun tk n => ?_
  refine ⟨_, tk, rfl, fun b o e => Heap.get?_push_of_some _ (kp b o e), ?_⟩
  have in_ : Reads (h₁.push { cls := .type "tuple", data := .seq [Value.int items.size n, .ref t].toArray }) (.ref t) (.tuple (ns.map PyData.int)) [] :=
    .tuple (Heap.get?_push_of_some _ (kp _ _ h1)) h2 h3 (reads_ints hi)
  have e : (items.size : Int) = (ns.length : Int) := by rw [← Array.length_toList, hi.length]
  refine .tuple (Heap.get?_push_size _ rfl) rfl rfl ?_
  have r2 := ReadsAll.cons (as := []) (bs := []) (Reads.int (h := h₁.push { cls := .type "tuple", data := .seq [Value.int items.size n, .ref t].toArray }) (items.size : Int) n) (ReadsAll.cons (as := []) (bs := []) in_ .nil)
  rw [e] at r2
  simpa [e] using r2
/-! ### what a source gives, as a list -/
theorem collect_kdl {T : String} {r d : Addr} {n : Nat} {Pz : Nat → Value → Prop} {OK : Heap → Prop} {Q : List Value → Shared → Prop} (K : KdlSrc prog w T r d n Pz OK) (hh : A.handled = none) (hok : OK s.heap) (hn : n ≤ sizeLine)
    (hQ : ∀ (h' : Heap) (tk : Nat) (acc : Array Value), (∀ b o, s.heap.get? b = some o → h'.get? b = some o) → s.heap.objs.size < h'.objs.size → ItemsOf Pz acc n → Q acc.toList { s with heap := h', toks := tk }) : wpAny (model prog w) A (collect (.ref r)) Q EE s := by
  obtain ⟨lr, ld⟩ := K.there _ hok
  have hS : (s.heap.push { cls := .type "list", data := .seq ([] : List Value).toArray }).get? s.heap.objs.size = some { cls := .type "list", data := .seq #[] 0 } := Heap.get?_push_size _ rfl
  unfold collect
  refine wpAny_bind (wpAny_runValue (codeAny_builtin F.entry_proto_collect ?_))
  rw [Around.under_plainId F.plain_proto_collect _]
  show wpAny _ A.in1 (newList [] >>= fun l => again (.builtin "list.__iadd__" ⟨[l, .ref r], []⟩)) _ _ s
  refine wpAny_bind (wpAny_newObj_type (wpAny_pure ⟨plainId_quiet F.plain_list_iadd _, codeAny_builtin F.entry_list_iadd ?_⟩))
  rw [Around.under_plainId F.plain_list_iadd _]
  show wpAny _ A.in1 (Builtin.List.listExtendWith (.ref s.heap.objs.size) (.ref r) (.ref s.heap.objs.size)) _ _ { s with heap := s.heap.push { cls := .type "list", data := .seq ([] : List Value).toArray } }
  have fine : ∀ {s' : Shared}, (∃ (h' : Heap) (tk : Nat) (acc : Array Value) (c : Nat), s' = { s with heap := h', toks := tk } ∧ (∀ b o, s.heap.get? b = some o → h'.get? b = some o) ∧ h'.get? s.heap.objs.size = some { cls := .type "list", dict := none, data := .seq acc c, slots := #[] } ∧ ItemsOf Pz acc n) →
      wpAny (model prog w) A (load s.heap.objs.size >>= fun o => match o.data with | .seq xs _ => pure xs.toList | _ => unsupported "internal:collect") Q EE s' := fun {s'} ⟨h', tk, acc, c, e, hk, hl, hi⟩ => by
    subst e
    exact wpAny_bind (wpAny_load hl (wpAny_pure (hQ h' tk acc hk (Heap.lt_size hl) hi)))
  refine wpAny_mono (kdl_extend (A := A) (R := fun rr s' => rr = .ok (.ret (.ref s.heap.objs.size)) ∧ ∃ (h' : Heap) (tk : Nat) (acc : Array Value) (c : Nat), s' = { s with heap := h', toks := tk } ∧ (∀ b o, s.heap.get? b = some o → h'.get? b = some o) ∧
      h'.get? s.heap.objs.size = some { cls := .type "list", dict := none, data := .seq acc c, slots := #[] } ∧ ItemsOf Pz acc n) K hh (K.keep _ _ hok fun b _ o e => Heap.get?_push_of_some _ e) s.heap.objs.size (Nat.ne_of_gt lr) (Nat.ne_of_gt ld) (.ref s.heap.objs.size) 0 hS
      (fun h' tk acc c hk e hi => ⟨rfl, h', tk, acc, c, rfl, fun b o q => hk b o (Nat.ne_of_lt (Heap.lt_size q)) (Heap.get?_push_of_some _ q), e, hi⟩) hn) (fun fin s' h => ?_) (fun e s' h => absurd h.1 (by simp))
  cases fin with
  | done fl =>
    obtain ⟨e, z⟩ := h
    cases e
    exact fine z
  | again c =>
    refine ⟨h.1, codeAny_mono h.2 fun rr s'' hr => ?_⟩
    obtain ⟨e, z⟩ := hr
    subst e
    exact fine z
end
/-! ### sorted(d, key=lambda x: (len(x), x)), d a dict with tuples of ints for keys -/
abbrev kLen (p : Addr × List Int) : PyData := .tuple [.int p.2.length, .tuple (p.2.map PyData.int)]
theorem kLen_alike (L : List (Addr × List Int)) : AllAlike (L.map kLen) := AllAlike.of fun b b' => by simp [kLen, alike, alikeAll, alike_ints]
theorem kLen_sortable (L : List (Addr × List Int)) : PySem.W.Sortable (L.map kLen) := Sortable.tuples fun b => ⟨_, _, rfl⟩
theorem kLen_depth (p : Addr × List Int) : (kLen p).depth = 2 := by simp [kLen, PyData.depth, PyData.depthAll, depth_ints]
/-- what the sort asks of its key: the lambda at f, in whatever keeps it -/
def LamAt (prog : Program) (w : World) (A : Around) (f : Addr) (h0 : Heap) : Prop := ∀ (s : Shared) (t : Addr) (items : Array Value) (ns : List Int), (∀ b o, h0.get? b = some o → s.heap.get? b = some o) → IsTup s.heap t items → IntsAre items.toList ns → (items.size : Int) < 2 ^ 63 →
  wpAny (model prog w) A (call (.ref f) [.ref t]) (KeyPure (.tuple [.int ns.length, .tuple (ns.map PyData.int)]) s) (fun _ _ => False) s
theorem sorted_kdl {prog : Program} {w : World} {A : Around} {EE : Value → Shared → Prop} {s : Shared} {T : String} {r d f : Addr} {n : Nat} {Pz : Nat → Value → Prop} {OK : Heap → Prop} {L : List (Addr × List Int)} {Q : Value → Shared → Prop} (K : KdlSrc prog w T r d n Pz OK) (hh : A.handled = none) (hok : OK s.heap) (hn : n ≤ sizeLine)
    (hl : L.length = n) (hP : ∀ i v, Pz i v → ∀ p, L[i]? = some p → v = .ref p.1) (ht : ∀ p ∈ L, ∃ items : Array Value, IsTup s.heap p.1 items ∧ IntsAre items.toList p.2 ∧ (items.size : Int) < 2 ^ 63) (hu : A.units + 16 < cLine)
    (lam : LamAt prog w A.in1.in1 f s.heap)
    (h : ∀ (p : Addr) (h' : Heap) (tk c : Nat) (out : List Value), (∀ b o, s.heap.get? b = some o → h'.get? b = some o) → s.heap.objs.size ≤ p → h'.get? p = some (seqObj "list" out.toArray c) → EachIs (fun v q => v = .ref q.1) out (L.mergeSort (dataLe false kLen)) → Q (.ref p) { s with heap := h', toks := tk }) :
    wpAny (model prog w) A (call (.builtin "sorted") [.ref r] [(Str.ofString "key", .ref f)]) Q EE s := by
  refine call_function_entry_kw kind_sorted plain_sorted entry_sorted (ksk_s1 _ _) ?_
  unfold Builtin.«sorted»
  refine wpAny_bind (m := checkCount "sorted" 1 1 _) (wpAny_pure ?_)
  refine wpAny_bind (collect_kdl K hh hok hn fun h1 tk1 acc k1 big it => ?_)
  have ea : acc.toList = L.map fun p => Value.ref p.1 := by
    apply List.ext_getElem?
    intro j
    have sz : acc.toList.length = n := by rw [Array.length_toList]; exact it.1
    rw [List.getElem?_map]
    cases q : L[j]? with
    | none =>
      rw [List.getElem?_eq_none (by rw [sz, ← hl]; exact List.getElem?_eq_none_iff.mp q)]; rfl
    | some p =>
      have lt : j < acc.toList.length := by rw [sz, ← hl]; exact (List.getElem?_eq_some_iff.mp q).1
      have z := List.getElem?_eq_getElem lt
      rw [z]
      have := hP j _ (it.2 j _ (by rw [← Array.getElem?_toList]; exact z)) p q
      rw [this]; rfl
  rw [ea]
  refine wpAny_bind (wpAny_newList ?_ (by rw [List.length_map, hl]; exact hn))
  have hoL : (h1.push (seqObj "list" (L.map fun p => Value.ref p.1).toArray 0)).get? h1.objs.size = some (seqObj "list" (L.map fun p => Value.ref p.1).toArray 0) := Heap.get?_push_size _ rfl
  have k2 : ∀ b o, s.heap.get? b = some o → (h1.push (seqObj "list" (L.map fun p => Value.ref p.1).toArray 0)).get? b = some o := fun b o e => Heap.get?_push_of_some _ (k1 b o e)
  have old : ∀ b o, s.heap.get? b = some o → b ≠ h1.objs.size := fun b o e => Nat.ne_of_lt (Heap.lt_size (k1 b o e))
  show wpAny _ _ _ _ _ { s with heap := h1.push (seqObj "list" (L.map fun p => Value.ref p.1).toArray 0), toks := tk1 }
  refine wpAny_bind (wpAny_holding (wpAny_call_entry_kw slot_list_sort ⟨_, hoL, rfl⟩ entry_list_sort ?_ (ksk_l1 _ _)))
  show wpAny (model prog w) A.in1.in1 (Builtin.«list.sort» ⟨[.ref h1.objs.size], [(Str.ofString "key", .ref f)]⟩) _ _ _
  rw [ksk_t1]
  have each : EachIs (fun v (q : Addr × List Int) => v = Value.ref q.1) (L.map fun p => Value.ref p.1) L := by
    clear ea it hoL k2 lam h hP ht hl
    induction L with
    | nil => exact .nil
    | cons p L ih => exact .cons rfl ih
  refine keyH_tree (kz := L.map kLen) (b := false) (s := { s with heap := h1.push (seqObj "list" (L.map fun p => Value.ref p.1).toArray 0), toks := tk1 }) hoL (by rw [List.length_map, List.length_map]) (by rw [List.length_map, hl]; exact hn) (kLen_alike L) (kLen_sortable L)
    (fun dd hd => ?_) (fun i v kk hv hk hp tk kb => ?_) fun h' tk out c kb hD ko => ⟨_, rfl, ?_⟩
  · obtain ⟨p, _, rfl⟩ := List.mem_map.mp hd
    rw [kLen_depth, Around.in1_units, Around.in1_units]; omega
  · rw [List.getElem?_map] at hv hk
    cases q : L[i]? with
    | none => rw [q] at hv; cases hv
    | some p =>
      rw [q] at hv hk
      cases hv; cases hk
      obtain ⟨items, t1, t2, t3⟩ := ht p (List.mem_of_getElem? q)
      have up : ∀ b o, s.heap.get? b = some o → hp.get? b = some o := fun b o e => kb b o (old b o e) (k2 b o e)
      obtain ⟨ot, o1, o2, n3, o3⟩ := t1
      exact lam { s with heap := hp, toks := tk } p.1 items p.2 up ⟨ot, up _ _ o1, o2, n3, o3⟩ t2 t3
  · refine wpAny_pure ⟨_, rfl, h _ h' tk c out (fun b o e => kb b o (old b o e) (k2 b o e)) (Nat.le_of_lt big) hD (keyedOut_each kLen ko each)⟩
end Dl
namespace Dl
open PySem L2 PyProof.Rows PySem.W LamX SrtO
/-! ### the order of lots: by how many, then as tuples -/
abbrev kSK (a : List Int) : SK := .tup [.num a.length, .tup (a.map .num)]
def ltLot (a b : List Int) : Bool := ltS (kSK a) (kSK b)
theorem swo_lot : Swo ltLot := swo_on kSK
theorem map_num_inj : ∀ {a b : List Int}, a.map SK.num = b.map SK.num → a = b
  | [], [], _ => rfl
  | [], _ :: _, h => nomatch h
  | _ :: _, [], h => nomatch h
  | x :: a, y :: b, h => by
    rw [List.map_cons, List.map_cons] at h
    injection h with h1 h2
    injection h1 with h1
    rw [h1, map_num_inj h2]
theorem ltLot_anti {a b : List Int} (h : ltLot a b = false) (h' : ltLot b a = false) : a = b := by
  have e := ltS_anti _ _ h h'
  unfold kSK at e
  injection e with e
  injection e with _ e
  injection e with e _
  injection e with e
  exact map_num_inj e
def sortLots (ks : List (List Int)) : List (List Int) := srtB ltLot ks
theorem row_int (x y : Int) (xs ys : List Int) : rowLt (PyData.int x :: xs.map .int) (PyData.int y :: ys.map .int) = if x = y then rowLt (xs.map .int) (ys.map .int) else decide (x < y) := by
  unfold rowLt
  rw [dataLt_cons (by simp [alike]), dataLt_int]
  simp only [PyData.eqv, beq_iff_eq]
theorem row_ltA : ∀ xs ys : List Int, rowLt (xs.map .int) (ys.map .int) = ltA (xs.map .num) (ys.map .num)
  | [], [] => by rw [dataLt_ints]; simp [ltA]
  | [], y :: ys => by rw [dataLt_ints]; simp [ltA]
  | x :: xs, [] => by rw [dataLt_ints]; simp [ltA]
  | x :: xs, y :: ys => by
    show rowLt (PyData.int x :: xs.map .int) (PyData.int y :: ys.map .int) = ltA (SK.num x :: xs.map .num) (SK.num y :: ys.map .num)
    rw [row_int, row_ltA xs ys]
    simp only [ltA, eqS, ltS, decide_eq_true_eq]
theorem eqv_rows : ∀ xs ys : List Int, PyData.eqvAll (xs.map PyData.int) (ys.map PyData.int) = eqA (xs.map SK.num) (ys.map SK.num)
  | [], [] => by simp [PyData.eqvAll, eqA]
  | [], _ :: _ => by simp [PyData.eqvAll, eqA]
  | _ :: _, [] => by simp [PyData.eqvAll, eqA]
  | x :: xs, y :: ys => by
    simp only [List.map_cons, PyData.eqvAll, PyData.eqv, eqA, eqS, eqv_rows xs ys]
    congr 1
theorem eqv_rowT (xs ys : List Int) : PyData.eqv (.tuple (xs.map PyData.int)) (.tuple (ys.map PyData.int)) = eqA (xs.map SK.num) (ys.map SK.num) := eqv_rows xs ys
theorem kLen_lt (p q : Addr × List Int) : dataLt (kLen p) (kLen q) = ltLot p.2 q.2 := by
  unfold kLen ltLot kSK
  rw [dataLt_pair (by simp [alike]) (by simp [alike, alike_ints]), dataLt_int, dataLt_tuple, eqv_rowT]
  have e : PyProof.Rows.lexLt itemOrd (keyToksAll (p.2.map PyData.int)) (keyToksAll (q.2.map PyData.int)) = ltA (p.2.map .num) (q.2.map .num) := row_ltA p.2 q.2
  rw [e]
  have e1 : PyData.eqv (PyData.int p.2.length) (PyData.int q.2.length) = decide ((p.2.length : Int) = q.2.length) := by
    simp only [PyData.eqv]
    rw [Bool.eq_iff_iff]; simp
  rw [e1]
  by_cases h1 : (p.2.length : Int) = q.2.length
  · simp [ltS, ltA, eqS, h1]
    by_cases z : eqA (p.2.map SK.num) (q.2.map SK.num) = true
    · simp [z]
    · simp [z]
  · simp [ltS, ltA, eqS, h1]
theorem merge_lots (L : List (Addr × List Int)) : (L.mergeSort (dataLe false kLen)).map (·.2) = sortLots (L.map (·.2)) := by
  have le_eq : ∀ a b : Addr × List Int, dataLe false kLen a b = !ltLot b.2 a.2 := fun a b => by
    rw [dataLe_eq]
    show (!dataLt (kLen b) (kLen a)) = _
    rw [kLen_lt]
  have tr : ∀ a b c : Addr × List Int, dataLe false kLen a b = true → dataLe false kLen b c = true → dataLe false kLen a c = true := fun a b c h1 h2 => by
    rw [le_eq] at h1 h2 ⊢
    simp only [Bool.not_eq_true'] at h1 h2 ⊢
    exact swo_lot.tr a.2 b.2 c.2 h1 h2
  have tot : ∀ a b : Addr × List Int, (dataLe false kLen a b || dataLe false kLen b a) = true := fun a b => by
    rw [le_eq, le_eq]
    cases q : ltLot b.2 a.2 with
    | false => rfl
    | true => rw [swo_lot.asym _ _ q]; rfl
  have so := List.pairwise_mergeSort tr tot L
  have pe := List.mergeSort_perm L (dataLe false kLen)
  refine srt_one swo_lot ?_ (srtB_srtd swo_lot _) ((pe.map (·.2)).trans (srtB_perm _).symm) fun x _ y _ h1 h2 => ltLot_anti h1 h2
  refine List.pairwise_map.mpr (so.imp fun {a b} h => ?_)
  rw [le_eq] at h
  simpa using h
/-! ### the lambda is made -/
section
variable {X : Cx} {pins : List (Addr × Obj)} {σ : L2.St} {H : Hp} {s : Shared}
/-- what the table may have become -/
def TblTo (P : Addr) (H H1 : Hp) : Prop := H1 = H ∨ ∃ (ps more : Array Value) (c' : Addr), H P = some (.tbl ps) ∧ H c' = none ∧ H1 = upd (upd H P (.tbl (ps ++ more))) c' (CodeO c' tbQ)
theorem lam_made {c P : Addr} {params : Arguments} {body : Expr} {scope : Scope} {pos : Pos} {EE : Value → Shared → Prop} {Q : Value → Shared → Prop} (I : Inv X pins σ H s) (TB : TabB X.base X.mg c P) (hcode : X.env.code = .ref c) (hq : X.env.qual ++ "<lambda>" = tbQ) (hT : TabS H P tbQ)
    (hdef : defaultsOf params X.env = ([], [])) (hno : ∀ y ∈ scope.names, y.2 ≠ .free)
    (h : ∀ (f c' : Addr) (pm ctv : Value) (H1 : Hp) (s' : Shared), Inv X pins σ H1 s' → TblTo P H H1 → TabS H1 P tbQ → s'.heap.get? f = some (kla_obj "<lambda>" tbQ params body scope [] pm c' ctv) → s'.heap.CodeRec (.ref c') tbQ → Q (.ref f) s') :
    wpAny (model X.prog X.w) X.A (eval (.Lambda params body scope pos) X.env) Q EE s := by
  obtain ⟨ps, hP, ht, ha⟩ := hT
  have clo : closureFor scope X.env = pure [] := by
    have q := closure_ok (scope := scope) (env := X.env) fun y hy e => absurd e (hno y hy)
    have z : cloFrom X.env.cells scope.names [] = [] := by
      cases q2 : cloFrom X.env.cells scope.names [] with
      | nil => rfl
      | cons p r =>
        exfalso
        have m : (p.1, p.2) ∈ cloFrom X.env.cells scope.names [] := by rw [q2]; exact List.mem_cons_self
        rcases cloFrom_mem m with hm | ⟨h1, _⟩
        · cases hm
        · exact hno _ h1 rfl
    rw [z] at q
    exact q
  have hPs : s.heap.get? P = some { cls := .none, data := .fields ps } := I.hok P _ hP
  have bm : s.heap.BuiltinsAt X.mg P := TB.bm.keeps I.bk
  refine kla_eval hdef ?_
  rw [hq]
  cases hc : codeAmong pos ps.toList with
  | some cv =>
    obtain ⟨c', e, hco⟩ := ha pos cv hc
    subst e
    refine kla_makeFunctionHit (mg := X.mg) (c := c) (P := P) (ps := ps) clo I.ok.glob (I.mod.glob.keeps I.bk) hcode (TB.code.keeps I.bk) hPs ht hc bm fun ctv h' tk kp big => ?_
    have kp2 : ∀ b o, s.heap.get? b = some o → (h'.push { cls := .type "function", data := .func (kla_fn "<lambda>" tbQ params body scope [] ((X.mg "__name__").getD .none) (.ref c') ctv) }).get? b = some o := fun b o e => Heap.get?_push_of_some _ (kp b o e)
    have I1 := I.kept (t' := tk) kp2
    obtain ⟨oc, vs, t, g1, g2, g3⟩ := (I1.hok c' _ hco).1
    exact h _ c' _ ctv H _ I1 (.inl rfl) ⟨ps, hP, ht, ha⟩ (Heap.get?_push_size _ rfl) ⟨c', oc, vs, t, rfl, g1, g2, g3⟩
  | none =>
    refine kla_makeFunction (mg := X.mg) (c := c) (P := P) (ps := ps) clo I.ok.glob (I.mod.glob.keeps I.bk) hcode (TB.code.keeps I.bk) hPs ht hc TB.gP bm fun c' ctv h' tk kp big lt rec_ tab => ?_
    obtain ⟨c2, oc, vs, t, e2, g1, g2, g3⟩ := rec_
    cases e2
    have n' : H c' = none := I.hok.fresh big
    have I1 := inv_table (t' := tk) (more := #[rawInt pos.line, rawInt pos.col, .ref c']) (h' := h'.push (kla_obj "<lambda>" tbQ params body scope [] ((X.mg "__name__").getD .none) c' ctv)) I hP
      (fun b o hb e => Heap.get?_push_of_some _ (kp b o hb e)) (Heap.get?_push_of_some _ tab) big ⟨oc, vs, t, Heap.get?_push_of_some _ g1, g2, g3⟩
    refine h _ c' _ ctv _ _ I1 (.inr ⟨ps, _, c', hP, n', rfl⟩) ?_ (Heap.get?_push_size _ rfl) ⟨c', oc, vs, t, rfl, Heap.get?_push_of_some _ g1, g2, g3⟩
    have eL : (ps ++ #[rawInt pos.line, rawInt pos.col, .ref c']).toList = ps.toList ++ [rawInt pos.line, rawInt pos.col, .ref c'] := by simp
    refine ⟨_, by rw [upd_ne (ne_of_none hP n'), upd_same], by rw [eL]; exact PySem.TriplesOk_snoc _ _ _ _ ht, fun p' cv hcv => ?_⟩
    rw [eL] at hcv
    rcases among_app _ ht hcv with z | z
    · obtain ⟨c0, e1, e2⟩ := ha p' cv z
      refine ⟨c0, e1, ?_⟩
      rw [upd_ne (ne_of_none e2 n'), upd_ne (fun z => codeO_ne ps (Option.some.inj (e2.symm.trans (by rw [z]; exact hP))))]
      exact e2
    · exact ⟨c', z, upd_same⟩
end
theorem TblTo.gr {E H H1 : Hp} {P : Addr} (t : TblTo P H H1) (s : Sb E H) (hT : TabS H P tbQ) (hT1 : TabS H1 P tbQ) : Gr E H E H1 := by
  rcases t with rfl | ⟨ps, more, c', hP, n', rfl⟩
  · exact Gr.refl s.sub
  · have nP : E P = none := by
      cases q : E P with
      | none => rfl
      | some o =>
        have := s.sub _ _ q
        rw [hP] at this; cases this
        exact absurd q (s.nt P ps)
    have nc : E c' = none := s.sub.fresh n'
    have nPc : P ≠ c' := ne_of_none hP n'
    refine ⟨Sub.refl _, fun a o e => ?_, fun P' t => ?_, id, fun a o e => ?_, fun a _ q => q, fun a o q1 q2 q3 => ?_⟩
    · by_cases ha : a = P
      · subst ha
        rw [hP] at e; cases e
        exact .inr ⟨ps, ps ++ more, rfl, by rw [upd_ne nPc, upd_same]⟩
      · exact .inl (by rw [upd_ne (ne_of_none e n'), upd_ne ha]; exact e)
    · by_cases ha : P' = P
      · subst ha; exact hT1
      · obtain ⟨ps', a1, a2, a3⟩ := t
        refine ⟨ps', by rw [upd_ne (ne_of_none a1 n'), upd_ne ha]; exact a1, a2, fun pos cv hc => ?_⟩
        obtain ⟨c, e1, e2⟩ := a3 pos cv hc
        exact ⟨c, e1, by rw [upd_ne (ne_of_none e2 n'), upd_ne (fun z => codeO_ne ps (Option.some.inj (e2.symm.trans (by rw [z]; exact hP))))]; exact e2⟩
    · have h1 : a ≠ P := fun z => by subst z; rw [nP] at e; cases e
      have h2 : a ≠ c' := fun z => by subst z; rw [nc] at e; cases e
      rw [upd_ne h2, upd_ne h1]
      exact s.sub a o e
    · by_cases h2 : a = c'
      · subst h2
        rw [upd_same] at q2; cases q2; exact q3.elim
      · rw [upd_ne h2] at q2
        by_cases h1 : a = P
        · subst h1; rw [hP] at q1; cases q1
        · rw [upd_ne h1, q1] at q2; cases q2
/-! ### the rule -/
section
variable {K : PySem.W.Frag} {cl : Str → Addr} {X : Cx} {W : L2.WX} {f : Ev} {e : Expr} {pos p : Pos}
abbrev lotKV (v : V) (H : Hp) (k : List Int) : Prop := ∃ b, v = V.ref b ∧ H b = some (.tup (k.map V.int))
def tSortL (P : Addr) (te : TE) : TE := fun σ H Q => te σ H fun x H1 => TabS H1 P tbQ ∧ ∃ d kvs ks, x = .ref d ∧ Rd H1 d (.dT kvs) ∧ kvs.map (·.1) = ks.map (fun k : List Int => k.map Sum.inl) ∧
  ∀ H2, TblTo P H1 H2 → TabS H2 P tbQ → ∀ p zs, H2 p = none → Paired (fun v k => lotKV v H2 k) zs (sortLots ks) → Q (.ref p) (upd H2 p (.lst zs))
theorem kt_ints {H : Hp} : ∀ {kvs : List (List Key × V)} {xs : List (List Key × Addr × Value)} {ks : List (List Int)}, KT H kvs xs → kvs.map (·.1) = ks.map (fun k : List Int => k.map Sum.inl) → ∃ L : List (Addr × List Int), L.map (·.1) = xs.map (fun x => x.2.1) ∧ L.map (·.2) = ks ∧ ∀ p ∈ L, H p.1 = some (.tup (p.2.map V.int))
  | [], _, ks, r, e => by
    cases r
    cases ks with
    | nil => exact ⟨[], rfl, rfl, fun p m => by cases m⟩
    | cons k ks => cases e
  | kv :: kvs, _, ks, r, e => by
    cases r with
    | @cons _ q _ qs h t =>
      cases ks with
      | nil => cases e
      | cons k ks =>
        rw [List.map_cons, List.map_cons] at e
        injection e with e1 e2
        obtain ⟨L, l1, l2, l3⟩ := kt_ints t e2
        obtain ⟨_, hb, _⟩ := h
        rw [e1, List.map_map] at hb
        refine ⟨(q.2.1, k) :: L, by rw [List.map_cons, List.map_cons, l1], by rw [List.map_cons, l2], fun p m => ?_⟩
        rcases List.mem_cons.mp m with rfl | m
        · exact hb
        · exact l3 p m
theorem pe_sortL {te : TE} {c P : Addr} {params : Arguments} {scope : Scope} {lpos kpos p1 p2 p3 p4 p5 : Pos} {k : Nat} {x : Str} (TB : TabB X.base X.mg c P) (hcode : X.env.code = .ref c) (hq : X.env.qual ++ "<lambda>" = tbQ) (hc : X.calm = true) (hu : X.A.units + 64 < cLine) (hdep : X.A.depth < recursionLimit)
    (he : PE X e te) (hg : Gl X "sorted") (hm : X.mg "sorted" = none) (hml : X.mg "len" = none)
    (hdef : defaultsOf params X.env = ([], [])) (hno : ∀ y ∈ scope.names, y.2 ≠ .free) (hco : scope.isCoroutine = false) (hgen : scope.isGenerator = false) (hk : scope.kind = .function) (hcell : ∀ y ∈ scope.names, y.2 ≠ .cell) (hx : scope.names.lookup x = some .local) (hlen : scope.names.lookup ("len" : Str) = some .globalImplicit) (hd : (x == ("__debug__" : Str)) = false)
    (hbind : ∀ (pm ctv : Value) (c' : Addr) (u : Value), bindArgs (kla_fn "<lambda>" tbQ params (.Tuple [.Call (.Name "len" p1) [.Name x p2] [] p3, .Name x p4] k p5) scope [] pm (.ref c') ctv) ⟨[u], []⟩ = pure [(x, u)])
    (hs1 : backTo pos (starEach [e] X.env) = (false, eval e X.env) :: backTo pos (starEach [] X.env) := by rfl) (hs2 : (backTo pos (starEach [e] X.env)).any (·.1) = false := by rfl) :
    PE X (.Call (.Name "sorted" p) [e] [⟨some "key", .Lambda params (.Tuple [.Call (.Name "len" p1) [.Name x p2] [] p3, .Name x p4] k p5) scope lpos, kpos⟩] pos) (tSortL P te) := ⟨fun pins s σ H Q I h => by
  refine wpAny_Call_Name_kw (ld_blt I hg hm boot_sorted ?_ (by decide) (by decide))
  refine PyProof.Rows.callWith_kw ?_ hs1 hs2 (by rfl) (by rfl)
  rw [hs1]
  show wpAny _ _ (spliced ((false, eval e X.env) :: [])) _ _ s
  refine Calls.spliced_cons (thn (he.run pins s σ H _ I h) fun u s1 ⟨xv, H1, I1, r1, hT, d, kvs, ks, ex, hD, ek, q⟩ => Calls.spliced_nil ?_)
  subst ex
  have eu : u = Value.ref d := r1
  subst eu
  show wpAny _ _ (evalAll ((do let v ← eval (.Lambda params (.Tuple [.Call (.Name "len" p1) [.Name x p2] [] p3, .Name x p4] k p5) scope lpos) X.env; standAt pos; pure v) :: [])) _ _ s1
  refine wpAny_evalAll_cons (wpAny_bind (lam_made I1 TB hcode hq hT hdef hno fun f c' pm ctv H2 s2 I2 hto hT2 hf hrec => wpAny_bind (wpAny_standAt (wpAny_pure (wpAny_evalAll_nil ?_)))))
  show wpAny (model X.prog X.w) X.A (call (.builtin "sorted") [.ref d] [(Str.ofString "key", .ref f)]) (EP X pins σ Q) X.xe s2
  have hD2 : Rd H2 d (.dT kvs) := by
    rcases hto with rfl | ⟨ps, more, c2, hP, n', rfl⟩
    · exact hD
    · rcases hD with hD | ⟨od, hD⟩
      · exact .inl (by rw [upd_ne (ne_of_none hD n'), upd_ne (fun z => by subst z; rw [hD] at hP; cases hP)]; exact hD)
      · exact .inr ⟨od, by rw [upd_ne (ne_of_none hD n'), upd_ne (fun z => by subst z; rw [hD] at hP; cases hP)]; exact hD⟩
  obtain ⟨hz, nd, xs, rel, o, es, ep, ho, hxd, hdt, hes, hn⟩ := (show ObjOk X.prog X.w H2 s2.heap d (.dT kvs) from hD2.ok I2.hok)
  obtain ⟨L, l1, l2, l3⟩ := kt_ints rel ek
  have n1 : es.size = xs.length := size_of_entries hes
  have n2 : kvs.length = xs.length := Paired.length rel
  have n3 : L.length = xs.length := by have := congrArg List.length l1; simpa using this
  obtain ⟨mb, b1, b2⟩ := I2.mod.blt
  refine sorted_kdl (L := L) (kdl_raw nd hxd hdt) (I2.ok.hd hc) ho (by omega) (by omega) (fun i v ⟨en, hen, hv⟩ q hq => ?_) (fun q hq => ?_) (by omega) (fun s3 t items ns keep ht hi hzt => ?_) fun pp h' tk c3 out keep big hl each => ?_
  · have qe := entry_at hes i
    rw [hen] at qe
    have z : (xs.map fun x => x.2.1)[i]? = some q.1 := by rw [← l1, List.getElem?_map, hq]; rfl
    rw [List.getElem?_map] at z
    cases hb : xs[i]? with
    | none => rw [hb] at z; cases z
    | some b =>
      rw [hb] at qe z
      have z1 : b.2.1 = q.1 := Option.some.inj z
      have z2 : en = entryOfKey (tupleKind (mixKind X.prog X.w)) b := Option.some.inj qe
      rw [hv, z2, ← z1]; rfl
  · obtain ⟨hz2, its, rv, ht⟩ := (show ObjOk X.prog X.w H2 s2.heap q.1 (.tup (q.2.map V.int)) from I2.hok q.1 _ (l3 q hq))
    refine ⟨its.toArray, ht, by simpa using Vals.ints rv, ?_⟩
    have := rv.length
    rw [List.size_toArray, ← this]
    have s64 := line63
    omega
  · refine lam_turn (mg := X.mg) (mb := mb) (keep _ _ hf) ?_ ?_ (hbind pm ctv c') hco hgen hk hcell hx hlen hd (I2.nolimit.keeps keep) ((I2.mod.glob.keeps I2.bk).keeps keep) hml ((b1.keeps I2.bk).keeps keep) (by rw [b2 _ (by decide)]; decide +kernel) ht hi hzt
    · obtain ⟨c2, oc, vs, t2, e2, g1, g2, g3⟩ := hrec
      exact ⟨c2, oc, vs, t2, e2, keep _ _ g1, g2, g3⟩
    · exact hdep
  · -- the list's values
    have eo : out = (L.mergeSort (dataLe false kLen)).map fun q => Value.ref q.1 := by
      clear hl
      generalize L.mergeSort (dataLe false kLen) = M at each
      induction each with
      | nil => rfl
      | cons h1 _ ih => rw [List.map_cons, ← ih, h1]
    have fresh : H2 pp = none := I2.hok.fresh big
    refine ⟨.ref pp, upd H2 pp (.lst ((L.mergeSort (dataLe false kLen)).map fun q => V.ref q.1)), I2.laid (t' := tk) keep big ⟨by rw [List.length_map, List.length_mergeSort]; omega, out, c3, ?_, hl⟩, rfl, q H2 hto hT2 pp _ fresh ?_⟩
    · rw [eo]
      generalize L.mergeSort (dataLe false kLen) = M
      induction M with
      | nil => exact .nil
      | cons q M ih => exact .cons rfl ih
    · rw [← l2, ← merge_lots]
      have mem : ∀ q ∈ L.mergeSort (dataLe false kLen), H2 q.1 = some (.tup (q.2.map V.int)) := fun q m => l3 q ((List.mergeSort_perm L _).mem_iff.mp m)
      generalize L.mergeSort (dataLe false kLen) = M at mem
      induction M with
      | nil => exact .nil
      | cons q M ih => exact .cons ⟨q.1, rfl, mem q List.mem_cons_self⟩ (ih fun r m => mem r (List.mem_cons_of_mem _ m))⟩
@[simp] def intsK : List Key → Option (List Int)
  | [] => some []
  | .inl i :: r => (intsK r).map (i :: ·)
  | .inr _ :: _ => none
@[simp] def keysI : DD → Option (List (List Int))
  | [] => some []
  | (k, _) :: r => match intsK k, keysI r with
    | some n, some ns => some (n :: ns)
    | _, _ => none
theorem intsK_eq : ∀ {k : List Key} {ns : List Int}, intsK k = some ns → k = ns.map Sum.inl
  | [], _, h => by cases h; rfl
  | .inl i :: r, ns, h => by
    have h : (intsK r).map (i :: ·) = some ns := h
    cases q : intsK r with
    | none => rw [q] at h; cases h
    | some ms => rw [q] at h; cases h; rw [intsK_eq q]; rfl
  | .inr _ :: _, _, h => nomatch h
theorem keysI_eq : ∀ {d : DD} {ks : List (List Int)}, keysI d = some ks → d.map (·.1) = ks.map (fun k : List Int => k.map Sum.inl)
  | [], _, h => by cases h; rfl
  | (k, x) :: r, ks, h => by
    unfold keysI at h
    cases q : intsK k with
    | none => rw [q] at h; cases h
    | some n =>
      cases q2 : keysI r with
      | none => rw [q, q2] at h; cases h
      | some ns =>
        rw [q, q2] at h; cases h
        rw [List.map_cons, List.map_cons, keysI_eq q2, intsK_eq q]
def lotD (ns : List Int) : Dt := .tup (ns.map .int)
@[simp] def oSortL : Dt → Option Dt
  | .dct kvs => (keysI kvs).map fun ks => .lst ((sortLots ks).map lotD)
  | _ => none
theorem DnD.keys {E : Hp} : ∀ {ds : DD} {kvs : List (List Key × V)}, DnD K cl E kvs ds → kvs.map (·.1) = ds.map (·.1)
  | [], _, h => by cases h; rfl
  | (k, d) :: ds, _, h => by
    cases h with
    | cons h r => rw [List.map_cons, List.map_cons, DnD.keys r]
theorem lots_dn {E H : Hp} (s : Sb E H) : ∀ {ks : List (List Int)} {zs : List V}, Paired (fun v k => lotKV v H k) zs ks → DnA K cl E zs (ks.map lotD)
  | _, _, .nil => .nil
  | _, _, .cons ⟨b, e, h⟩ r => by
    subst e
    exact .cons (.tup (s.im _ _ h trivial) (DnA.of_ints _)) (lots_dn s r)
theorem n_sortL {c : Addr} {params : Arguments} {scope : Scope} {lpos kpos p1 p2 p3 p4 p5 : Pos} {k : Nat} {x : Str} (TB : TabB X.base X.mg c (cl "<table>")) (hcode : X.env.code = .ref c) (hq : X.env.qual ++ "<lambda>" = tbQ) (hc : X.calm = true) (hu : X.A.units + 64 < cLine) (hdep : X.A.depth < recursionLimit)
    (he : PE X e (tW X.K cl W f)) (hg : Gl X "sorted") (hm : X.mg "sorted" = none) (hml : X.mg "len" = none)
    (hdef : defaultsOf params X.env = ([], [])) (hno : ∀ y ∈ scope.names, y.2 ≠ .free) (hco : scope.isCoroutine = false) (hgen : scope.isGenerator = false) (hk : scope.kind = .function) (hcell : ∀ y ∈ scope.names, y.2 ≠ .cell) (hx : scope.names.lookup x = some .local) (hlen : scope.names.lookup ("len" : Str) = some .globalImplicit) (hd : (x == ("__debug__" : Str)) = false)
    (hbind : ∀ (pm ctv : Value) (c' : Addr) (u : Value), bindArgs (kla_fn "<lambda>" tbQ params (.Tuple [.Call (.Name "len" p1) [.Name x p2] [] p3, .Name x p4] k p5) scope [] pm (.ref c') ctv) ⟨[u], []⟩ = pure [(x, u)])
    (hs1 : backTo pos (starEach [e] X.env) = (false, eval e X.env) :: backTo pos (starEach [] X.env) := by rfl) (hs2 : (backTo pos (starEach [e] X.env)).any (·.1) = false := by rfl) :
    PE X (.Call (.Name "sorted" p) [e] [⟨some "key", .Lambda params (.Tuple [.Call (.Name "len" p1) [.Name x p2] [] p3, .Name x p4] k p5) scope lpos, kpos⟩] pos) (tN X.K cl W (c1 oSortL f)) :=
  PE.imp (pe_sortL (P := cl "<table>") TB hcode hq hc hu hdep he hg hm hml hdef hno hco hgen hk hcell hx hlen hd hbind hs1 hs2) fun σ H Q ⟨E0, H0, E, ρ, r, an⟩ => ⟨E0, H0, E, ρ, r, (An.bind an).imp fun dd k v E1 H1 g1 s1 => by
    obtain ⟨z, hz, k⟩ := An.ofO k
    have r1 := r.grow g1
    cases dd with
    | dct kvs =>
      have hz : (keysI kvs).map (fun ks => Dt.lst ((sortLots ks).map lotD)) = some z := hz
      cases qk : keysI kvs with
      | none => rw [qk] at hz; cases hz
      | some ks =>
        rw [qk] at hz; cases hz
        obtain ⟨a1, vs, rfl, p1, q1⟩ := s1.dictD g1.eh
        refine ⟨r1.tb, a1, vs, ks, rfl, p1, by rw [q1.keys]; exact keysI_eq qk, fun H2 hto hT2 pp zs n pz => ?_⟩
        have gT := hto.gr r1.sb r1.tb hT2
        have sb2 := gT.sb r1.sb
        obtain ⟨g3, w3⟩ := new_lst sb2.sub (lots_dn sb2 pz) n
        exact k _ _ _ ((g1.trans gT).trans g3) (coN _ _ _ _ _ _ _ _ (g1.trans gT) w3)
    | _ => cases hz⟩
end
end Dl
/-! The head's facts, with a check of one's own beside the library's. -/
namespace Dl
open PySem L2 PyProof.Rows
abbrev Fg := PySem.W.Frag
def obsE (fa : List He.Fa) (fn : List He.DefD) (ex : Fg → Bool) (K : Fg) : He.AlD := (((fa.all fun f => f.ok K) && fn.all fun d => d.ok K) && ex K, fn.map fun d => He.fnW K d.at_)
def SaysE (fa : List He.Fa) (fn : List He.DefD) (ex : Fg → Bool) (K : Fg) : Prop := obsE fa fn ex K = He.valD fn
/-- a table of code objects, by its look -/
def isTab : Option Obj → Bool
  | some ⟨.none, _, .fields _, _⟩ => true
  | _ => false
def isTab0 : Option Obj → Bool
  | some ⟨.none, none, .fields vs, sl⟩ => vs.isEmpty && sl.isEmpty
  | _ => false
theorem isTab0_eq {o : Option Obj} (h : isTab0 o = true) : o = some { cls := .none, data := .fields #[] } := by
  unfold isTab0 at h
  split at h
  · rename_i vs sl
    rw [Bool.and_eq_true] at h
    have e1 : vs = #[] := by simpa using h.1
    have e2 : sl = #[] := by simpa using h.2
    subst e1 e2; rfl
  · cases h
theorem isTab_of0 {o : Option Obj} (h : isTab0 o = true) : isTab o = true := by rw [isTab0_eq h]; rfl
/-- the frame without the tables -/
def frN (g : Addr → Option Obj) (as : List Addr) : Fg := He.frG g (as.filter fun a => !isTab (g a))
theorem frG_mem {g : Addr → Option Obj} {a : Addr} {o : Obj} : ∀ {as : List Addr}, (He.frG g as).lookup a = some o → a ∈ as
  | [], e => nomatch (show (none : Option Obj) = some o from e)
  | b :: r, e => by
    unfold He.frG at e
    rw [List.filterMap_cons] at e
    cases hb : g b with
    | none =>
      rw [hb] at e
      exact List.mem_cons_of_mem _ (frG_mem (show (He.frG g r).lookup a = some o from e))
    | some ob =>
      rw [hb] at e
      have e : List.lookup a ((b, ob) :: He.frG g r) = some o := e
      rw [List.lookup_cons] at e
      by_cases q : (a == b) = true
      · rw [beq_iff_eq.mp q]; exact List.mem_cons_self
      · rw [show (a == b) = false by simpa using q] at e
        exact List.mem_cons_of_mem _ (frG_mem e)
theorem frN_no {g : Addr → Option Obj} {as : List Addr} {a : Addr} (h : isTab (g a) = true) : (frN g as).lookup a = none := by
  cases q : (frN g as).lookup a with
  | none => rfl
  | some o =>
    have m := frG_mem q
    have := (List.mem_filter.mp m).2
    rw [h] at this; cases this
/-- a def's code object and its table -/
def cTab (K : Fg) (f : Addr) : Option (Addr × Addr) := match K.lookup f with
  | some ⟨_, _, .func fd, _⟩ => (match fd.code with
    | .ref c => (match K.lookup c with
      | some ⟨_, _, .fields vs, _⟩ => (match vs.getD 11 .none with
        | .ref P => some (c, P)
        | _ => none)
      | _ => none)
    | _ => none)
  | _ => none
def tabsB (tl : List Str) (g : Addr → Option Obj) (K : Fg) : Bool := tl.all fun x => match cTab K (He.ga K x) with
  | some (c, P) => PySem.W.codeHdIn K c P && isTab0 (g P)
  | none => false
abbrev AlT : Type := He.AlD × Bool
def obsT (n : Nat) (fa : List He.Fa) (fn : List He.DefD) (ex : Fg → Bool) (tl : List Str) (g : Addr → Option Obj) : AlT := (obsE fa fn ex (frN g (He.asD g n)), tabsB tl g (frN g (He.asD g n)))
def TabF (K : Fg) (h : Heap) (x : Str) : Prop := ∃ c P, cTab K (He.ga K x) = some (c, P) ∧ PySem.W.codeHdIn K c P = true ∧ h.get? P = some { cls := .none, data := .fields #[] } ∧ K.lookup P = none
def hookT (n : Nat) (fa : List He.Fa) (fn : List He.DefD) (ex : Fg → Bool) (tl : List Str) : PySem.W.Hook where
  α := AlT
  obs := fun s => obsT n fa fn ex tl s.heap.get?
  val := fun _ => (He.valD fn, true)
  says := fun _ h => ∃ K : Fg, K.In h ∧ SaysE fa fn ex K ∧ ∀ x ∈ tl, TabF K h x
  of := fun _ s e => by
    have e1 := congrArg Prod.fst e
    have e2 : tabsB tl s.heap.get? (frN s.heap.get? (He.asD s.heap.get? n)) = true := congrArg Prod.snd e
    refine ⟨_, He.frG_in, e1, fun x hx => ?_⟩
    have z := List.all_eq_true.mp e2 x hx
    split at z
    · rename_i c P q
      rw [Bool.and_eq_true] at z
      exact ⟨c, P, q, z.1, isTab0_eq z.2, frN_no (isTab_of0 z.2)⟩
    · cases z
  keeps := fun _ _ _ ⟨K, hK, c, t⟩ k => ⟨K, PySem.W.Frag.In.keeps hK k, c, fun x hx => let ⟨c', P, h1, h2, h3, h4⟩ := t x hx; ⟨c', P, h1, h2, k _ _ h3, h4⟩⟩
theorem obsT_eq {n : Nat} {fa : List He.Fa} {fn : List He.DefD} {ex : Fg → Bool} {tl : List Str} {g : Addr → Option Obj} {s : Shared} (h : ∀ a, g a = s.heap.get? a) : obsT n fa fn ex tl g = (hookT n fa fn ex tl).obs s := by
  have e : g = s.heap.get? := funext h
  rw [e]; rfl
section
variable {fa : List He.Fa} {fn : List He.DefD} {ex : Fg → Bool} {K : Fg}
theorem SaysE.all (c : SaysE fa fn ex K) : (((fa.all fun f => f.ok K) && fn.all fun d => d.ok K) && ex K) = true := congrArg (fun z : He.AlD => z.1) c
theorem SaysE.d (c : SaysE fa fn ex K) : He.SaysD fa fn K := by
  have h := (Bool.and_eq_true_iff.mp c.all).1
  have e : fn.map (fun d => He.fnW K d.at_) = fn.map He.DefD.val := congrArg (fun z : He.AlD => z.2) c
  unfold He.SaysD He.obsD He.valD
  rw [h, e]
theorem SaysE.own (c : SaysE fa fn ex K) : ex K = true := (Bool.and_eq_true_iff.mp c.all).2
end
/-! ### addresses by names, the table among them -/
def clT (P : Addr) (K : Fg) (n : Str) : Addr := bif n == ("<table>" : Str) then P else He.ga K n
theorem clT_ne {P : Addr} {K : Fg} {n : Str} (h : (n == ("<table>" : Str)) = false) : clT P K n = He.ga K n := by unfold clT; rw [h]; rfl
theorem clT_tab {P : Addr} {K : Fg} : clT P K "<table>" = P := rfl
theorem XTab.conv {K : Fg} {P : Addr} {ns cs : List Str} (h : XTab K (He.ga K) ns cs) (h1 : ns.all (fun n => !(n == ("<table>" : Str))) = true) (h2 : cs.all (fun n => !(n == ("<table>" : Str))) = true) : XTab K (clT P K) ns cs := by
  have e1 : ∀ n ∈ ns, clT P K n = He.ga K n := fun n hn => clT_ne (by simpa using List.all_eq_true.mp h1 n hn)
  have e2 : ∀ n ∈ cs, clT P K n = He.ga K n := fun n hn => clT_ne (by simpa using List.all_eq_true.mp h2 n hn)
  obtain ⟨a, b⟩ := h
  exact ⟨fun n hn => by rw [e1 n hn]; exact a n hn, fun n hn c hc => by obtain ⟨z1, z2⟩ := b n hn c hc; exact ⟨by rw [e1 n hn, e2 c hc]; exact z1, by rw [e1 n hn, e2 c hc]; exact z2⟩⟩
/-- a def whose code object has the table -/
def DfnL (K : Fg) (mg : Str → Option Value) (base : Heap) (cl : Str → Addr) (x : Str) (st : Stmt) (ps : List Str) : Prop := ∃ (f : Addr) (fd : FuncData) (c : Addr), Fun K x x st f fd ∧ mg x = some (.ref f) ∧ (∀ (s : Shared) (us : List Value), us.length = ps.length → BindsTo s fd ⟨us, []⟩ (ps.zip us)) ∧ fd.code = .ref c ∧ LamX.TabB base mg c (cl "<table>")
section
variable {P : Program} {w : World} {K : Fg} {mg : Str → Option Value} {base : Heap} {cl : Str → Addr}
theorem DfnL.mk {x : Str} {st : Stmt} {N ps : List Str} {k : Nat} {g : Sv} (F : DfnL K mg base cl x st ps) (S : FnScope N ps (defScope st))
    (hbody : ∀ {fA c : Addr} {A : Around} {outer : List Env} {s : Shared} {H : Hp} {E : XK}, LamX.TabB base mg c (cl "<table>") → Room k (cxOf (L2.CX P w) P w K mg base N x (defScope st) fA (.ref c) A outer s H E).A →
      Takes (cxOf (L2.CX P w) P w K mg base N x (defScope st) fA (.ref c) A outer s H E) (fun c d _ H => E c d H) →
      PassesOwn (model P w) (cxOf (L2.CX P w) P w K mg base N x (defScope st) fA (.ref c) A outer s H E).A (cxOf (L2.CX P w) P w K mg base N x (defScope st) fA (.ref c) A outer s H E).env (cxOf (L2.CX P w) P w K mg base N x (defScope st) fA (.ref c) A outer s H E).xe →
      (cxOf (L2.CX P w) P w K mg base N x (defScope st) fA (.ref c) A outer s H E).A.units + 64 < cLine → (cxOf (L2.CX P w) P w K mg base N x (defScope st) fA (.ref c) A outer s H E).A.units + 65 < cLine → N.Nodup →
      PSs (cxOf (L2.CX P w) P w K mg base N x (defScope st) fA (.ref c) A outer s H E) (defBody st) (tS K cl (fun c d _ H => E c d H) g)) :
    Fn P w K mg base cl x (k + 1) ps (runF ps.length N.length g) := by
  obtain ⟨f, fd, c, F, hm, hb, hcode, TB⟩ := F
  obtain ⟨oc, od, kV, doc, pm, an, cdv, ct, osl, e, lk, hcd⟩ := F.ex
  subst e
  have ec : cdv = .ref c := hcode
  subst ec
  refine ⟨f, _, fn_of (sp := spX K cl (runF ps.length N.length g)) lk hcd S (fun vs H Q E h => ?_) (fun A outer s H vs Q E hr h => ?_), hm, F.kp, fun s us _ hl => by rw [List.append_nil] at hl ⊢; exact hb s us hl, ⟨oc, od, osl, lk⟩⟩
  · obtain ⟨E1, ds, sb, tb, hd, h⟩ := h
    rw [hd.length]
    unfold runF at h
    by_cases hl : ds.length = ps.length
    · exact hl
    · rw [if_neg hl] at h; exact h.elim
  · obtain ⟨E1, ds, sb, tb, hd, h⟩ := h
    refine ⟨_, hbody TB hr (takes_of rfl rfl rfl rfl) (passes_of (K := fun e s'' => L2.CX P w outer H s E e s'') rfl) hr.units (hu_65 hr) S.nd, E1, H, E1, _, start_rl (N := N) sb tb hd, ?_⟩
    unfold runF at h
    by_cases hl : ds.length = ps.length
    · rw [if_pos hl] at h
      revert h
      cases g (ds.map Sl.va ++ List.replicate (N.length - ds.length) Sl.no) with
      | st => exact fun h => h
      | nx ρ => exact fun h σ' E' H' r _ => h _ E' H' r.gr .non
      | bk ρ => exact fun h => h.elim
      | ct ρ => exact fun h => h.elim
      | rt d => exact fun h v E' H' g' s => h v E' H' g' s
      | ex n ρ => exact fun h σ' E' H' r _ => h E' H' r.gr
    · rw [if_neg hl] at h; exact h.elim
end
/-! ### checks -/
def excCB (K : Fg) (D : Addr) : Bool :=
  decide (PySem.W.findIn K (.ref D) "__getattribute__" = some (some (.builtin "BaseException.__getattribute__"))) && decide (PySem.W.findIn K (.ref D) "__getattr__" = some none) &&
  decide (PySem.W.subIn K (.ref D) (.type "BaseException") = some true) && PySem.W.hasDictIn K D && decide (PySem.W.findIn K (.ref D) "__class__" = some (some (.builtin "object.__class__"))) &&
  decide (PySem.W.specialIn K (.builtin "object.__class__") "__get__" = some (some (.builtin "getset_descriptor.__get__"))) && decide (PySem.W.takesIn K (.builtin "object.__class__") = some true) && decide (PySem.W.mroIn K D (.type "object") = some true)
theorem excCB_ok {K : Fg} {D : Addr} (h : excCB K D = true) : ExcC K D := by
  unfold excCB at h
  simp only [Bool.and_eq_true, decide_eq_true_eq] at h
  obtain ⟨⟨⟨⟨⟨⟨⟨h1, h2⟩, h3⟩, h4⟩, h5⟩, h6⟩, h7⟩, h8⟩ := h
  exact ⟨h1, h2, h3, h4, h5, h6, h7, h8⟩
def tabB (ns cs : List Str) (K : Fg) : Bool := (ns.all fun n => excCB K (He.ga K n)) && ns.all fun n => cs.all fun c =>
  decide (PySem.W.exmOne K (.ref (He.ga K n)) (.ref (He.ga K c)) = some (subX n c)) && decide (PySem.W.kitOne K (.ref (He.ga K n)) (.ref (He.ga K c)) = some (subX n c))
theorem tabB_ok {ns cs : List Str} {K : Fg} (h : tabB ns cs K = true) : XTab K (He.ga K) ns cs := by
  unfold tabB at h
  simp only [Bool.and_eq_true, List.all_eq_true, decide_eq_true_eq] at h
  exact ⟨fun n hn => excCB_ok (h.1 n hn), fun n hn c hc => ⟨(h.2 n hn c hc).1, (h.2 n hn c hc).2⟩⟩
theorem XCls.of {K : Fg} {h : Heap} {mg : Str → Option Value} (X : K.In h) (G : h.Ns mainGlobals mg) {n : Str} (g : (He.Fa.glo n).ok K = true) (e : (He.Fa.exc n).ok K = true) : XCls K mg n (He.ga K n) := by
  obtain ⟨h1, h2, h3, h4⟩ := He.exc_ok e
  exact ⟨He.glo_ok X G g, h1, h2, h3, h4⟩
theorem Dfn.of {K : Fg} {h : Heap} {mg : Str → Option Value} (X : K.In h) (G : h.Ns mainGlobals mg) {n q : Str} {st : Stmt} {ps : List Str} {f : Addr} {fd : FuncData} {kws : List (Str × V)} (e : f = He.ga K n) (F : FunD K n n (defArgs st) (defBody st) (defScope st) [] kws f fd) (g : (He.Fa.glo n).ok K = true)
    (hb : ∀ (kV doc pm : Value) (an : Option Addr) (cdv ct : Value) (us : List Value), us.length = ps.length → bindArgs (PySem.W.fnOf n n (defArgs st) (defBody st) (defScope st) .none kV doc pm an cdv ct) ⟨us, []⟩ = pure (ps.zip us)) : Dfn K mg n st ps := by
  subst e
  exact ⟨_, _, He5.fun_of F, He.glo_ok X G g, F.bindsA hb⟩
/-- the def with the table, from the head's facts -/
theorem DfnL.of {K : Fg} {mg : Str → Option Value} {base : Heap} {c P : Addr} {x : Str} {st : Stmt} {ps : List Str} (F : Dfn K mg x st ps) (hm : mg x = some (.ref (He.ga K x))) (t : cTab K (He.ga K x) = some (c, P)) (TB : LamX.TabB base mg c P) : DfnL K mg base (clT P K) x st ps := by
  obtain ⟨f, fd, Fu, hf, hb⟩ := F
  rw [hm] at hf; cases hf
  obtain ⟨oc, od, kV, doc, pm, an, cdv, ct, osl, e, lk, hcd⟩ := Fu.ex
  refine ⟨_, fd, c, Fu, hm, hb, ?_, TB⟩
  unfold cTab at t
  rw [lk] at t
  dsimp only at t
  split at t
  · rename_i c' q
    split at t
    · split at t
      · rename_i P' _; cases t; exact q
      · cases t
    · cases t
  · cases t
/-- the law's end: what F says of every list of at most 63 ints -/
theorem law_sp {K : Fg} {cl : Str → Addr} {F : List Dt → Rs Dt} (h : ∀ ns : List Int, ns.length ≤ 63 → F [.scr ns] = .ok (.bl true)) (H : Hp) (a : Addr) (ns : List Int) (hl : ns.length ≤ 63) (hS : SqL K H a (ns.map V.int)) (hT : H (cl "<table>") = some (.tbl #[])) :
    spX K cl F [.ref a] H (fun v _ => v = .bl true) fun _ _ _ => False := by
  have hS' : SqL K (noT H) a (ns.map V.int) := by
    rcases hS with (hS | ⟨o, hS⟩) | hS
    · exact .inl (.inl (noT_of hS fun _ z => nomatch z))
    · exact .inl (.inr ⟨o, noT_of hS fun _ z => nomatch z⟩)
    · exact .inr hS
  refine ⟨noT H, [.scr ns], noT_sb H, LamX.TabS.nil hT, .cons (.scr hS') .nil, ?_⟩
  rw [h ns hl]
  intro v E' H' _ hd
  cases hd; rfl
theorem cx_no {P : Program} {w : World} {H : Hp} {s : Shared} {e : Value} {s' : Shared} (h : L2.CX P w [] H s (fun _ _ _ => False) e s') : False := by
  obtain ⟨_, _, _, _, _, _, _, _, _, _, _, _, z⟩ := h
  exact z
/-- the law's def on data, carried to the row's walk -/
theorem walk_law {l : PySem.W.OpenLaw} {q : Program} {loose : List Str} {XP : (Str → Option Value) → Heap → Prop} {YP : World → Heap → Prop} {d : DefRec} {k : Nat} {x n : Str} {st : Stmt} {F : List Dt → Rs Dt} {tl : Str}
    (hn : l.most = some 63) (hdf : d.params.defaults = []) (hr : Room k callerA) (hname : d.name = n)
    (hY : ∀ (w : World) (mg : Str → Option Value) (h : Heap), YP w h → h.Ns mainGlobals mg →
      ∃ K : Fg, K.In h ∧ TabF K h tl ∧ Dfn K mg n st [x] ∧ ∀ (base : Heap) (c P : Addr), cTab K (He.ga K tl) = some (c, P) → LamX.TabB base mg c P → Fn l.prog w K mg base (clT P K) n k [x] F)
    (hF : ∀ ns : List Int, ns.length ≤ 63 → F [.scr ns] = .ok (.bl true)) : PySem.W.WalkO q loose XP YP l.row.toRowW d [] (fun f vs => PySem.call f vs) :=
  Att.attach_callB hn hdf fun w s₀ s₁ mg mb fa o pm cd doc a vs ns G Y ho hd hcd hmg hobj hints hlen hbits hg => by
    obtain ⟨K, KX, ⟨c, P, ht, hc, hP, nP⟩, ⟨f, fd, Fu, hf, hb⟩, hFn⟩ := hY w mg _ Y G.T.g
    rw [hname] at hmg
    have e : fa = f := by
      rw [hf] at hmg
      cases hmg
      rfl
    subst e
    have ok : ∀ base : Heap, K.In base → base.Ns mainGlobals mg → (∀ p ∈ [(c, P)], LamX.TabB base mg p.1 p.2) → FnOk l.prog w K mg base (L2.CX l.prog w) k fa fd [x] (spX K (clT P K) F) := fun base _ _ hTB => by
      obtain ⟨f2, fd2, G2, hm2, _, _, oc2, od2, osl2, lk2⟩ := (hFn base c P ht (hTB (c, P) (List.mem_singleton.mpr rfl))).ex
      rw [hf] at hm2
      cases hm2
      obtain ⟨oc, od, kV, doc, pm, an, cdv, ct, osl, _, lk, _⟩ := Fu.ex
      rw [lk] at lk2
      cases lk2
      exact G2
    have one : ∀ {Z : Addr × Addr → Prop}, Z (c, P) → ∀ p ∈ [(c, P)], Z p := fun z p hp => by rw [List.mem_singleton.mp hp]; exact z
    exact LamX.law_callTs (CX := L2.CX l.prog w) (cs := [(c, P)]) (sp := spX K (clT P K) F) KX G.T.g G.T.b G.T.builtins G.T.nolimit hg (one hP) (one nP) (one (PySem.W.codeHd_of_K KX hc)) G.T.bmain hobj hints (Nat.le_trans hlen (by decide)) hr ok (fun s u => hb s [u] rfl)
      (fun H hH hS => law_sp hF H a ns hlen hS (by rw [clT_tab]; exact hH (c, P) (List.mem_singleton.mpr rfl))) fun H e s' z => cx_no z
end Dl
namespace Dl
open PySem L2
/-- no object, no dict, no script -/
def plain : Dt → Bool
  | .dct _ | .obj _ _ | .scr _ | .cst _ => false
  | _ => true
@[simp] theorem kit_ii : kitB "int" "int" = some true := by decide +kernel
@[simp] theorem kit_bi : kitB "bool" "int" = some true := by decide +kernel
@[simp] theorem kit_ni : kitB "NoneType" "int" = some false := by decide +kernel
@[simp] theorem kit_si : kitB "str" "int" = some false := by decide +kernel
@[simp] theorem kit_li : kitB "list" "int" = some false := by decide +kernel
@[simp] theorem kit_ti : kitB "tuple" "int" = some false := by decide +kernel
@[simp] theorem kit_ib : kitB "int" "bool" = some false := by decide +kernel
@[simp] theorem kit_bb : kitB "bool" "bool" = some true := by decide +kernel
@[simp] theorem kit_is : kitB "int" "str" = some false := by decide +kernel
@[simp] theorem kit_bs : kitB "bool" "str" = some false := by decide +kernel
@[simp] theorem kit_ns : kitB "NoneType" "str" = some false := by decide +kernel
@[simp] theorem kit_ss : kitB "str" "str" = some true := by decide +kernel
@[simp] theorem kit_ls : kitB "list" "str" = some false := by decide +kernel
@[simp] theorem kit_ts : kitB "tuple" "str" = some false := by decide +kernel
@[simp] theorem kit_it : kitB "int" "tuple" = some false := by decide +kernel
@[simp] theorem kit_bt : kitB "bool" "tuple" = some false := by decide +kernel
@[simp] theorem kit_nt : kitB "NoneType" "tuple" = some false := by decide +kernel
@[simp] theorem kit_st : kitB "str" "tuple" = some false := by decide +kernel
@[simp] theorem kit_lt : kitB "list" "tuple" = some false := by decide +kernel
@[simp] theorem kit_tt : kitB "tuple" "tuple" = some true := by decide +kernel
/-- isinstance as a function -/
def isI (T : String) (d : Dt) : Bool := match d, T with
  | .int _, "int" => true
  | .bl _, "int" => true
  | .bl _, "bool" => true
  | .str _, "str" => true
  | .tup _, "tuple" => true
  | _, _ => false
def isInt : Dt → Bool
  | .int _ | .bl _ => true
  | _ => false
def isBl : Dt → Bool
  | .bl _ => true
  | _ => false
def isStr : Dt → Bool
  | .str _ => true
  | _ => false
def isTup : Dt → Bool
  | .tup _ => true
  | _ => false
theorem oIsi_int {d : Dt} (h : plain d = true) : oIsi "int" d = some (.bl (isInt d)) := by
  cases d <;> first | exact Bool.noConfusion h | simp [oIsi, isInt]
theorem oIsi_bool {d : Dt} (h : plain d = true) : (isInt d = true → oIsi "bool" d = some (.bl (isBl d))) := by
  cases d <;> first | exact Bool.noConfusion h | simp [oIsi, isBl, isInt]
theorem oIsi_str {d : Dt} (h : plain d = true) : oIsi "str" d = some (.bl (isStr d)) := by
  cases d <;> first | exact Bool.noConfusion h | simp [oIsi, isStr]
theorem oIsi_tup {d : Dt} (h : plain d = true) : oIsi "tuple" d = some (.bl (isTup d)) := by
  cases d <;> first | exact Bool.noConfusion h | simp [oIsi, isTup]
/-- a whole number from lo to hi -/
def isW (d : Dt) (lo hi : Int) : Bool := match d with
  | .int i => decide (lo ≤ i) && decide (i ≤ hi)
  | _ => false
@[simp] theorem isW_non (lo hi : Int) : isW .non lo hi = false := rfl
@[simp] theorem isW_bl (b : Bool) (lo hi : Int) : isW (.bl b) lo hi = false := rfl
@[simp] theorem isW_str (b : Str) (lo hi : Int) : isW (.str b) lo hi = false := rfl
@[simp] theorem isW_lst (b : List Dt) (lo hi : Int) : isW (.lst b) lo hi = false := rfl
@[simp] theorem isW_tup (b : List Dt) (lo hi : Int) : isW (.tup b) lo hi = false := rfl
@[simp] theorem ne_uc : (("up" : Str) = "cut") = False := by rw [eq_iff_iff, iff_false]; decide +kernel
@[simp] theorem ne_cu : (("cut" : Str) = "up") = False := by rw [eq_iff_iff, iff_false]; decide +kernel
@[simp] theorem ne_nc : (("near" : Str) = "cut") = False := by rw [eq_iff_iff, iff_false]; decide +kernel
@[simp] theorem ne_nu : (("near" : Str) = "up") = False := by rw [eq_iff_iff, iff_false]; decide +kernel
theorem small_of {i : Int} (h1 : -18446744073709551616 < i) (h2 : i < 18446744073709551616) : small i = true := by
  unfold small
  rw [Bool.and_eq_true]
  exact ⟨decide_eq_true h1, decide_eq_true h2⟩
theorem atI_natD {α : Type} {xs : List α} {k : Nat} (h : k < xs.length) : atI xs (k : Int) = some xs[k] := atI_nat (List.getElem?_eq_getElem h)
theorem atI_int {α : Type} {xs : List α} {k : Int} (h0 : 0 ≤ k) (h : k < xs.length) : atI xs k = xs[k.toNat]? := by
  obtain ⟨n, rfl⟩ := Int.eq_ofNat_of_zero_le h0
  have hn : n < xs.length := by omega
  have : atI xs (n : Int) = some xs[n] := atI_natD hn
  rw [this]
  simp [hn]
/-- an item of a list of ints -/
def at0 (xs : List Int) (k : Int) : Int := xs.getD k.toNat 0
theorem atI_map {xs : List Int} {k : Int} (h0 : 0 ≤ k) (h : k < xs.length) : atI (xs.map Dt.int) k = some (.int (at0 xs k)) := by
  rw [atI_int h0 (by simpa using h), List.getElem?_map]
  have hn : k.toNat < xs.length := by omega
  unfold at0
  simp [hn]
theorem at0_mem {xs : List Int} {k : Int} (h0 : 0 ≤ k) (h : k < xs.length) : at0 xs k ∈ xs := by
  have hn : k.toNat < xs.length := by omega
  unfold at0
  simp [hn]
theorem goFor_step {tg : Gv} {fg : List Nat} {body : Sv} {d : Dt} {ds : List Dt} {ρ ρ1 ρ2 : List Sl} (h1 : tg d ρ = some ρ1) (h2 : body ρ1 = .nx ρ2) : goFor tg fg body (d :: ds) ρ = goFor tg fg body ds (fgt fg ρ2) := by
  rw [goFor_cons, h1]
  show (match body ρ1 with
      | .nx ρ2 => goFor tg fg body ds (fgt fg ρ2)
      | .ct ρ2 => goFor tg fg body ds (fgt fg ρ2)
      | .bk ρ2 => .nx ρ2
      | .rt d => .rt d
      | .ex n ρ2 => .ex n ρ2
      | .st => .st) = _
  rw [h2]
end Dl
/-! Plain facts for the laws: loops as folds, lots and polls as data. -/
namespace Dl
open PySem L2
theorem goLc_map {α : Type} {tg : Gv} {t : Tv} {f : Ev} {ρ : List Sl} (q y : α → Dt) (b : α → Bool) : ∀ xs : List α,
    (∀ x ∈ xs, ∃ ρ1, tg (q x) ρ = some ρ1 ∧ t ρ1 = .ok (b x) ∧ (b x = true → f ρ1 = .ok (y x))) → goLc tg t f (xs.map q) ρ = .ok ((xs.filter b).map y)
  | [], _ => rfl
  | x :: xs, h => by
    obtain ⟨ρ1, h1, h2, h3⟩ := h x List.mem_cons_self
    have ih := goLc_map q y b xs fun z hz => h z (List.mem_cons_of_mem _ hz)
    rw [List.map_cons]
    unfold goLc
    rw [h1]
    show (match t ρ1 with
      | .ok true => (match f ρ1 with
        | .ok y => (goLc tg t f (xs.map q) ρ).bind fun r => .ok (y :: r)
        | _ => .st)
      | .ok false => goLc tg t f (xs.map q) ρ
      | _ => .st) = _
    rw [h2]
    cases hb : b x with
    | true =>
      rw [h3 hb, ih, List.filter_cons_of_pos hb]
      rfl
    | false =>
      rw [ih, List.filter_cons_of_neg (by rw [hb]; decide)]
/-- without a test -/
theorem goLc_all {α : Type} {tg : Gv} {f : Ev} {ρ : List Sl} (q y : α → Dt) (xs : List α) (h : ∀ x ∈ xs, ∃ ρ1, tg (q x) ρ = some ρ1 ∧ f ρ1 = .ok (y x)) : goLc tg tvYes f (xs.map q) ρ = .ok (xs.map y) := by
  rw [goLc_map q y (fun _ => true) xs fun x hx => by obtain ⟨ρ1, h1, h2⟩ := h x hx; exact ⟨ρ1, h1, rfl, fun _ => h2⟩]
  rw [List.filter_eq_self.mpr fun _ _ => rfl]
/-- none passes -/
theorem goLc_none {α : Type} {tg : Gv} {t : Tv} {f : Ev} {ρ : List Sl} (q : α → Dt) (xs : List α) (h : ∀ x ∈ xs, ∃ ρ1, tg (q x) ρ = some ρ1 ∧ t ρ1 = .ok false) : goLc tg t f (xs.map q) ρ = .ok [] := by
  rw [goLc_map q (fun _ => .non) (fun _ => false) xs fun x hx => by obtain ⟨ρ1, h1, h2⟩ := h x hx; exact ⟨ρ1, h1, h2, fun z => nomatch z⟩]
  rw [List.filter_eq_nil_iff.mpr fun _ _ => by decide]
  rfl
/-- a for as a fold: st the slots, by what is kept; I what holds -/
theorem goFor_fold {α σ : Type} {tg : Gv} {fg : List Nat} {body : Sv} (q : α → Dt) (st : σ → List Sl) (step : σ → α → σ) (I : σ → Prop) : ∀ (xs : List α) (s : σ), I s →
    (∀ s x, x ∈ xs → I s → I (step s x) ∧ ∃ ρ1 ρ2, tg (q x) (st s) = some ρ1 ∧ body ρ1 = .nx ρ2 ∧ fgt fg ρ2 = st (step s x)) →
    goFor tg fg body (xs.map q) (st s) = .nx (st (xs.foldl step s)) ∧ I (xs.foldl step s)
  | [], s, hi, _ => ⟨rfl, hi⟩
  | x :: xs, s, hi, h => by
    obtain ⟨hi', ρ1, ρ2, h1, h2, h3⟩ := h s x List.mem_cons_self hi
    have ih := goFor_fold q st step I xs (step s x) hi' fun s y hy => h s y (List.mem_cons_of_mem _ hy)
    rw [List.map_cons, goFor_step h1 h2, h3]
    exact ih
@[simp] theorem intsOf_map : ∀ l : List Int, intsOf (l.map Dt.int) = some l
  | [] => rfl
  | i :: l => by simp [intsOf, intsOf_map l]
@[simp] theorem intsOf_mapc (l : List Int) : intsOf (List.map (fun i => Dt.int i) l) = some l := intsOf_map l
/-! ### equality of lots -/
theorem toPyA_ints : ∀ l : List Int, toPyA (l.map Dt.int) = some (l.map PyData.int)
  | [] => rfl
  | i :: l => by
    have ih := toPyA_ints l
    rw [List.map_cons, List.map_cons]
    unfold toPyA
    rw [ih]
    rfl
theorem toPy_lot (l : List Int) : toPy (lotD l) = some (.tuple (l.map .int)) := by
  unfold lotD toPy
  rw [toPyA_ints]; rfl
theorem lay_ints : ∀ l : List Int, PyData.canLayAll0 (l.map PyData.int) = true
  | [] => by simp [PyData.canLayAll0]
  | i :: l => by simp [PyData.canLayAll0, PyData.canLay0, lay_ints l]
theorem dep_ints : ∀ l : List Int, PyData.depthAll (l.map PyData.int) = 0
  | [] => by simp [PyData.depthAll]
  | i :: l => by simp [PyData.depthAll, PyData.depth, dep_ints l]
theorem shaped_lot (l : List Int) : SeqAt.shaped (.tuple (l.map .int)) = true := by
  unfold SeqAt.shaped
  simp [PyData.canLay0, PyData.depth, lay_ints l, dep_ints l]
theorem eqv_ints : ∀ a b : List Int, PyData.eqvAll (a.map PyData.int) (b.map PyData.int) = decide (a = b) := PySem.W.ked_eqvAll
theorem eqD_lot (a b : List Int) : eqD (lotD a) (lotD b) = some (decide (a = b)) := by
  unfold eqD
  show (match scD (.tup (a.map Dt.int)), scD (.tup (b.map Dt.int)) with
    | some v, some w => if scal v w then some (decide (v = w)) else none
    | _, _ => match toPy (lotD a), toPy (lotD b) with
      | some p, some q => if SeqAt.shaped p && SeqAt.shaped q then some (PyData.eqv p q) else none
      | _, _ => none) = _
  rw [toPy_lot, toPy_lot]
  simp [scD, shaped_lot, PyData.eqv, eqv_ints]
@[simp] theorem oEq_lot (a b : List Int) : oEq (lotD a) (lotD b) = some (.bl (decide (a = b))) := by unfold oEq; rw [eqD_lot]; rfl
@[simp] theorem oNe_lot (a b : List Int) : oNe (lotD a) (lotD b) = some (.bl (!decide (a = b))) := by unfold oNe; rw [eqD_lot]; rfl
@[simp] theorem oEq_int (a b : Int) : oEq (.int a) (.int b) = some (.bl (decide (a = b))) := by simp [oEq, eqD, scal]
@[simp] theorem oNe_int (a b : Int) : oNe (.int a) (.int b) = some (.bl (!decide (a = b))) := by simp [oNe, eqD, scal]
@[simp] theorem oEq_str (a b : Str) : oEq (.str a) (.str b) = some (.bl (decide (a = b))) := by simp [oEq, eqD, scal]
@[simp] theorem oNe_str (a b : Str) : oNe (.str a) (.str b) = some (.bl (!decide (a = b))) := by simp [oNe, eqD, scal]
theorem toPyA_lots : ∀ ls : List (List Int), toPyA (ls.map lotD) = some (ls.map fun l => PyData.tuple (l.map .int))
  | [] => rfl
  | l :: ls => by
    rw [List.map_cons, List.map_cons]
    unfold toPyA
    rw [toPyA_lots ls, toPy_lot]
theorem lay_lots : ∀ ls : List (List Int), PyData.canLayAll0 (ls.map fun l => PyData.tuple (l.map .int)) = true
  | [] => by simp [PyData.canLayAll0]
  | l :: ls => by simp [PyData.canLayAll0, PyData.canLay0, lay_ints l, lay_lots ls]
theorem dep_lots : ∀ ls : List (List Int), PyData.depthAll (ls.map fun l => PyData.tuple (l.map .int)) ≤ 1
  | [] => by simp [PyData.depthAll]
  | l :: ls => by
    have := dep_lots ls
    simp only [List.map_cons, PyData.depthAll, PyData.depth, dep_ints l]
    omega
theorem shaped_lots (ls : List (List Int)) : SeqAt.shaped (.list (ls.map fun l => PyData.tuple (l.map .int))) = true := by
  have h := dep_lots ls
  unfold SeqAt.shaped
  rw [Bool.and_eq_true]
  refine ⟨by rw [PyData.canLay0]; exact lay_lots ls, decide_eq_true ?_⟩
  rw [PyData.depth]
  omega
theorem any_lots (l : List Int) : ∀ ls : List (List Int), ((ls.map fun l => PyData.tuple (l.map .int)).any fun z => PyData.eqv z (.tuple (l.map .int))) = decide (l ∈ ls)
  | [] => rfl
  | m :: ls => by
    rw [List.map_cons, List.any_cons, any_lots l ls, PyData.eqv, eqv_ints]
    by_cases h : m = l
    · subst h; simp
    · have h' : ¬ l = m := fun e => h e.symm
      simp [h, h']
theorem any_ints (i : Int) : ∀ l : List Int, ((l.map Dt.int).any fun z => eqF z (.int i)) = decide (i ∈ l)
  | [] => rfl
  | j :: l => by
    rw [List.map_cons, List.any_cons, any_ints i l]
    by_cases h : j = i
    · subst h; simp [eqF]
    · have h' : ¬ i = j := fun e => h e.symm
      simp [eqF, h, h']
theorem deepIn_lot (l : List Int) (ls : List (List Int)) : deepIn (lotD l) (.lst (ls.map lotD)) = some (decide (l ∈ ls)) := by
  unfold deepIn
  rw [toPy_lot]
  have e : toPy (.lst (ls.map lotD)) = some (.list (ls.map fun l => PyData.tuple (l.map .int))) := by
    unfold toPy; rw [toPyA_lots]; rfl
  rw [e]
  simp only [shaped_lot, shaped_lots, Bool.and_self, if_true, any_lots]
theorem inD_lot (l : List Int) (ls : List (List Int)) : inD (lotD l) (.lst (ls.map lotD)) = some (decide (l ∈ ls)) := by
  unfold inD
  exact deepIn_lot l ls
@[simp] theorem oInA_lot (l : List Int) (ls : List (List Int)) : oInA (lotD l) (.lst (ls.map lotD)) = some (.bl (decide (l ∈ ls))) := by
  show (inD (lotD l) (.lst (ls.map lotD))).map Dt.bl = _
  rw [inD_lot]; rfl
@[simp] theorem oNinA_lot (l : List Int) (ls : List (List Int)) : oNinA (lotD l) (.lst (ls.map lotD)) = some (.bl (!decide (l ∈ ls))) := by
  show (inD (lotD l) (.lst (ls.map lotD))).map (fun b => Dt.bl (!b)) = _
  rw [inD_lot]; rfl
/-- an int within a lot -/
theorem inD_int (i : Int) (l : List Int) : inD (.int i) (lotD l) = some (decide (i ∈ l)) := by
  unfold inD lotD
  have f : (l.map Dt.int).all flD = true := by simp [flD]
  simp only [itemsD, flD, f, Bool.and_self, if_true, Option.some.injEq]
  exact any_ints i l
@[simp] theorem oInA_int (i : Int) (l : List Int) : oInA (.int i) (lotD l) = some (.bl (decide (i ∈ l))) := by
  show (inD (.int i) (lotD l)).map Dt.bl = _
  rw [inD_int]; rfl
/-! ### polls as data -/
structure Sh where
  u : Int
  w : Str
  ps : List (List Int × Int)
structure Pl where
  n : Int
  one : Bool
  ss : List Sh
def ptD (p : List Int × Int) : Dt := .tup [lotD p.1, .int p.2]
def shD (s : Sh) : Dt := .tup [.int s.u, .str s.w, .tup (s.ps.map ptD)]
def kindS (b : Bool) : Str := if b then "one" else "some"
def plD (p : Pl) : Dt := .tup [.int p.n, .str (kindS p.one), .tup (p.ss.map shD)]
end Dl
/-! An object that its methods change: slot 0 holds it pinned (Sl.pn); its dicts are its own; all other slots hold what is flat (no dict, no object) or stood ahead. -/
namespace Dl
open PySem L2
def isM : HO → Bool
  | .ins _ _ _ => true
  | .dT _ => true
  | .frz _ (.dT _) => true
  | _ => false
/-- a heap without dicts and instances -/
def fl (E : Hp) : Hp := fun a => match E a with
  | some o => if isM o then none else some o
  | none => none
theorem fl_sub (E : Hp) : Sub (fl E) E := fun a o e => by
  unfold fl at e
  split at e
  · rename_i u q
    split at e
    · cases e
    · cases e; exact q
  · cases e
theorem fl_of {E : Hp} {a : Addr} {o : HO} (h : E a = some o) (n : isM o = false) : fl E a = some o := by
  unfold fl; rw [h]; simp [n]
theorem fl_is {E : Hp} {a : Addr} {o : HO} (h : fl E a = some o) : E a = some o ∧ isM o = false := by
  unfold fl at h
  split at h
  · rename_i u q
    split at h
    · cases h
    · rename_i n; cases h; exact ⟨q, by simpa using n⟩
  · cases h
theorem fl_no {E : Hp} {a : Addr} {o : HO} (h : E a = some o) (n : isM o = true) : fl E a = none := by
  unfold fl; rw [h]; simp [n]
theorem fl_up {E E' : Hp} (s : Sub (fl E) E') : Sub (fl E) (fl E') := fun a o e => fl_of (s a o e) (fl_is e).2
mutual
def flat : Dt → Bool
  | .lst xs => flatA xs
  | .tup xs => flatA xs
  | .cst xs => flatA xs
  | .dct _ => false
  | .obj _ _ => false
  | _ => true
def flatA : List Dt → Bool
  | [] => true
  | x :: xs => flat x && flatA xs
end
section
variable {K : PySem.W.Frag} {cl : Str → Addr}
theorem fl_rd {E : Hp} {a : Addr} {u : HO} (h : Rd E a u) (n : isM u = false) (n2 : ∀ o, isM (.frz o u) = false) : Rd (fl E) a u := by
  rcases h with h | ⟨o, h⟩
  · exact .inl (fl_of h n)
  · exact .inr ⟨o, fl_of h (n2 o)⟩
mutual
theorem Dn.fl {E : Hp} : ∀ {d : Dt} {v : V}, Dn K cl E v d → flat d = true → Dn K cl (fl E) v d
  | .non, _, h, _ => by cases h; exact .non
  | .bl _, _, h, _ => by cases h; exact .bl _
  | .int _, _, h, _ => by cases h; exact .int _
  | .str _, _, h, _ => by cases h; exact .str _
  | .lst ds, _, h, e => by
    cases h with
    | lst h r => exact .lst (fl_of h rfl) (DnA.fl r e)
  | .tup ds, _, h, e => by
    cases h with
    | tup h r => exact .tup (fl_of h rfl) (DnA.fl r e)
  | .cst ds, _, h, e => by
    cases h with
    | cst h r =>
      refine .cst ?_ (DnA.fl r e)
      rcases h with h | h
      · exact .inl (fl_rd h rfl fun _ => rfl)
      · exact .inr h
  | .scr ns, _, h, e => by
    cases h with
    | scr h =>
      refine .scr ?_
      rcases h with h | h
      · exact .inl (fl_rd h rfl fun _ => rfl)
      · exact .inr h
  | .dct _, _, h, e => by cases e
  | .obj _ _, _, h, e => by cases e
theorem DnA.fl {E : Hp} : ∀ {ds : List Dt} {vs : List V}, DnA K cl E vs ds → flatA ds = true → DnA K cl (fl E) vs ds
  | [], _, h, _ => by cases h; exact .nil
  | d :: ds, _, h, e => by
    cases h with
    | cons h r =>
      unfold flatA at e
      rw [Bool.and_eq_true] at e
      exact .cons (Dn.fl h e.1) (DnA.fl r e.2)
end
theorem DnD.fl {E : Hp} : ∀ {ds : DD} {vs : List (List Key × V)}, DnD K cl E vs ds → (∀ kd ∈ ds, flat kd.2 = true) → DnD K cl (fl E) vs ds
  | [], _, h, _ => by cases h; exact .nil
  | (k, d) :: ds, _, h, e => by
    cases h with
    | cons h r => exact .cons (Dn.fl h (e _ List.mem_cons_self)) (DnD.fl r fun kd hm => e kd (List.mem_cons_of_mem _ hm))
end
/-! ### the fields of the object -/
section
variable (K : PySem.W.Frag) (cl : Str → Addr)
/-- fields: flat ones, or dicts of the object's own at the addresses bs, flat within -/
inductive FO (H0 E : Hp) : List (Str × V) → List (Str × Dt) → List Addr → Prop
  | nil : FO H0 E [] [] []
  | flt {k : Str} {v : V} {vs : List (Str × V)} {d : Dt} {ds : List (Str × Dt)} {bs : List Addr} (h : Dn K cl E v d) (f : flat d = true) (r : FO H0 E vs ds bs) : FO H0 E ((k, v) :: vs) ((k, d) :: ds) bs
  | dic {k : Str} {b : Addr} {kvs : List (List Key × V)} {vs : List (Str × V)} {es : DD} {ds : List (Str × Dt)} {bs : List Addr} (h : E b = some (.dT kvs)) (q : DnD K cl E kvs es) (f : ∀ kd ∈ es, flat kd.2 = true) (n : H0 b = none) (nb : b ∉ bs)
    (r : FO H0 E vs ds bs) : FO H0 E ((k, .ref b) :: vs) ((k, .dct es) :: ds) (b :: bs)
end
/-- a field stored -/
def putG (f : Str) (d : Dt) : List (Str × Dt) → List (Str × Dt)
  | [] => [(f, d)]
  | (g, x) :: r => if g = f then (g, d) :: r else (g, x) :: putG f d r
section
variable {K : PySem.W.Frag} {cl : Str → Addr} {H0 E E' : Hp}
theorem FO.dn {vs : List (Str × V)} {ds : List (Str × Dt)} {bs : List Addr} (h : FO K cl H0 E vs ds bs) : DnF K cl E vs ds := by
  induction h with
  | nil => exact .nil
  | flt h f r ih => exact .cons h ih
  | dic h q f n nb r ih => exact .cons (.dct (.inl h) q) ih
theorem FO.n0 {vs : List (Str × V)} {ds : List (Str × Dt)} {bs : List Addr} (h : FO K cl H0 E vs ds bs) : ∀ b ∈ bs, H0 b = none ∧ ∃ kvs, E b = some (.dT kvs) := by
  induction h with
  | nil => intro b m; cases m
  | flt h f r ih => exact ih
  | dic h q f n nb r ih =>
    intro b m
    rcases List.mem_cons.mp m with rfl | m
    · exact ⟨n, _, h⟩
    · exact ih b m
theorem FO.keep {vs : List (Str × V)} {ds : List (Str × Dt)} {bs : List Addr} (h : FO K cl H0 E vs ds bs) (s : Sub (fl E) E') (kb : ∀ b ∈ bs, E' b = E b) : FO K cl H0 E' vs ds bs := by
  induction h with
  | nil => exact .nil
  | flt h f r ih => exact .flt ((h.fl f).mono s) f (ih kb)
  | dic h q f n nb r ih =>
    exact .dic (by rw [kb _ List.mem_cons_self]; exact h) ((q.fl f).mono s) f n nb (ih fun b m => kb b (List.mem_cons_of_mem _ m))
theorem FO.len {vs : List (Str × V)} {ds : List (Str × Dt)} {bs : List Addr} (h : FO K cl H0 E vs ds bs) : vs.length = ds.length := by
  induction h with
  | nil => rfl
  | flt h f r ih => simp [ih]
  | dic h q f n nb r ih => simp [ih]
theorem FO.putF {vs : List (Str × V)} {ds : List (Str × Dt)} {bs : List Addr} {f : Str} {v : V} {d : Dt} (h : FO K cl H0 E vs ds bs) (hd : Dn K cl E v d) (hf : flat d = true) :
    ∃ bs', FO K cl H0 E (putF f v vs) (putG f d ds) bs' ∧ ∀ b ∈ bs', b ∈ bs := by
  induction h with
  | nil => exact ⟨[], .flt hd hf .nil, fun _ m => m⟩
  | @flt k v0 vs d0 ds bs h0 f0 r ih =>
    unfold L2.putF putG
    by_cases q : k = f
    · rw [if_pos q, if_pos q]; exact ⟨bs, .flt hd hf r, fun _ m => m⟩
    · rw [if_neg q, if_neg q]
      obtain ⟨bs', r', m⟩ := ih
      exact ⟨bs', .flt h0 f0 r', m⟩
  | @dic k b kvs vs es ds bs h0 q0 f0 n nb r ih =>
    unfold L2.putF putG
    by_cases q : k = f
    · rw [if_pos q, if_pos q]; exact ⟨bs, .flt hd hf r, fun _ m => List.mem_cons_of_mem _ m⟩
    · rw [if_neg q, if_neg q]
      obtain ⟨bs', r', m⟩ := ih
      exact ⟨b :: bs', .dic h0 q0 f0 n (fun z => nb (m _ z)) r', fun x mx => by
        rcases List.mem_cons.mp mx with rfl | mx
        · exact List.mem_cons_self
        · exact List.mem_cons_of_mem _ (m x mx)⟩
theorem FO.putN {vs : List (Str × V)} {ds : List (Str × Dt)} {bs : List Addr} {f : Str} {b : Addr} {kvs : List (List Key × V)} {es : DD} (h : FO K cl H0 E vs ds bs) (hb : E b = some (.dT kvs)) (hq : DnD K cl E kvs es) (hf : ∀ kd ∈ es, flat kd.2 = true) (hn : H0 b = none) (nb : b ∉ bs) :
    ∃ bs', FO K cl H0 E (L2.putF f (.ref b) vs) (putG f (.dct es) ds) bs' ∧ ∀ x ∈ bs', x = b ∨ x ∈ bs := by
  induction h with
  | nil => exact ⟨[b], .dic hb hq hf hn (fun z => nomatch z) .nil, fun x m => .inl (List.mem_singleton.mp m)⟩
  | @flt k v0 vs d0 ds bs h0 f0 r ih =>
    unfold L2.putF putG
    by_cases q : k = f
    · rw [if_pos q, if_pos q]
      exact ⟨b :: bs, .dic hb hq hf hn nb r, fun x m => List.mem_cons.mp m⟩
    · rw [if_neg q, if_neg q]
      obtain ⟨bs', r', m⟩ := ih nb
      exact ⟨bs', .flt h0 f0 r', m⟩
  | @dic k b0 kvs0 vs es0 ds bs h0 q0 f0 n0 nb0 r ih =>
    have nb1 : b ∉ bs := fun z => nb (List.mem_cons_of_mem _ z)
    unfold L2.putF putG
    by_cases q : k = f
    · rw [if_pos q, if_pos q]
      exact ⟨b :: bs, .dic hb hq hf hn nb1 r, fun x m => by
        rcases List.mem_cons.mp m with z | m
        · exact .inl z
        · exact .inr (List.mem_cons_of_mem _ m)⟩
    · rw [if_neg q, if_neg q]
      obtain ⟨bs', r', m⟩ := ih nb1
      refine ⟨b0 :: bs', .dic h0 q0 f0 n0 (fun z => ?_) r', fun x mx => ?_⟩
      · rcases m _ z with e | e
        · exact nb (by rw [e]; exact List.mem_cons_self)
        · exact nb0 e
      · rcases List.mem_cons.mp mx with z | mx
        · exact .inr (by rw [z]; exact List.mem_cons_self)
        · rcases m x mx with z | z
          · exact .inl z
          · exact .inr (List.mem_cons_of_mem _ z)
/-- the dict of a field, and the fields behind a store to it -/
theorem FO.wr {vs : List (Str × V)} {ds : List (Str × Dt)} {bs : List Addr} {f : Str} {es : DD} (h : FO K cl H0 E vs ds bs) (hl : ds.lookup f = some (.dct es)) :
    ∃ b kvs, vs.lookup f = some (.ref b) ∧ b ∈ bs ∧ E b = some (.dT kvs) ∧ DnD K cl E kvs es ∧ (∀ kd ∈ es, flat kd.2 = true) ∧
      ∀ E' kvs' es', E' b = some (.dT kvs') → DnD K cl E' kvs' es' → (∀ kd ∈ es', flat kd.2 = true) → Sub (fl E) E' → (∀ x ∈ bs, x ≠ b → E' x = E x) → FO K cl H0 E' vs (putG f (.dct es') ds) bs := by
  induction h with
  | nil => cases hl
  | @flt k v0 vs d0 ds bs h0 f0 r ih =>
    by_cases q : f = k
    · subst q
      rw [List.lookup_cons] at hl
      rw [show (f == f) = true by simp] at hl
      cases hl; cases f0
    · have q' : (f == k) = false := by simpa using q
      rw [List.lookup_cons, q'] at hl
      obtain ⟨b, kvs, h1, h2, h3, h4, h5, h6⟩ := ih hl
      refine ⟨b, kvs, by rw [List.lookup_cons, q']; exact h1, h2, h3, h4, h5, fun E' kvs' es' e1 e2 e3 e4 e5 => ?_⟩
      unfold putG
      rw [if_neg (fun z => q z.symm)]
      exact .flt ((h0.fl f0).mono e4) f0 (h6 E' kvs' es' e1 e2 e3 e4 e5)
  | @dic k b0 kvs0 vs es0 ds bs h0 q0 f0 n0 nb0 r ih =>
    by_cases q : f = k
    · subst q
      rw [List.lookup_cons, show (f == f) = true by simp] at hl
      cases hl
      refine ⟨b0, kvs0, by rw [List.lookup_cons, show (f == f) = true by simp], List.mem_cons_self, h0, q0, f0, fun E' kvs' es' e1 e2 e3 e4 e5 => ?_⟩
      unfold putG
      rw [if_pos rfl]
      exact .dic e1 e2 e3 n0 nb0 (r.keep e4 fun b m => e5 b (List.mem_cons_of_mem _ m) fun z => nb0 (by rw [← z]; exact m))
    · have q' : (f == k) = false := by simpa using q
      rw [List.lookup_cons, q'] at hl
      obtain ⟨b, kvs, h1, h2, h3, h4, h5, h6⟩ := ih hl
      refine ⟨b, kvs, by rw [List.lookup_cons, q']; exact h1, List.mem_cons_of_mem _ h2, h3, h4, h5, fun E' kvs' es' e1 e2 e3 e4 e5 => ?_⟩
      unfold putG
      rw [if_neg (fun z => q z.symm)]
      have ne : b0 ≠ b := fun z => nb0 (by rw [z]; exact h2)
      exact .dic (by rw [e5 b0 List.mem_cons_self ne]; exact h0) ((q0.fl f0).mono e4) f0 n0 nb0 (h6 E' kvs' es' e1 e2 e3 e4 fun x m => e5 x (List.mem_cons_of_mem _ m))
end
end Dl
namespace Sh
open PySem L2 Dl
def g_is_within : Sv := (sRet (cAndV (c1 (oIsi "int") (cVw 0)) (cAndV (cNotV (c1 (oIsi "bool") (cVw 0))) (cChain oLe oLe (cV 1) (cV 0) (cV 2)))))
def F_is_within : List Dt → Rs Dt := runF 3 3 g_is_within
def g_rises : Sv := (sRet (cB (cNot (cTru (cLc [1, 2] (cZip (aCons (cV 0) (aCons (cCut (cV 0) (pSome (cK (.int 1))) pNo) aNil))) (gT (gsCons (gN 1) (gsCons (gN 2) gsNil))) (cT (c2 oGe (cV 1) (cV 2))) (cK (.int 1)))))))
def F_rises : List Dt → Rs Dt := runF 1 3 g_rises
def g_is_lot : Sv := (sSeq (sIf (cOr (cNot (cT (c1 (oIsi "tuple") (cVw 1)))) (cOr (cNot (cTru (cVw 1))) (cTru (cLc [2] (cSeqA (cV 1)) (gN 2) (cNot (cTru (cCall F_is_within (aCons (cV 2) (aCons (cK (.int 0)) (aCons (c2 oSub (cV 0) (cK (.int 1))) aNil)))))) (cV 2))))) (sRet (cK (.bl false))) sNil)
  (sRet (cCall F_rises (aCons (cV 1) aNil))))
def F_is_lot : List Dt → Rs Dt := runF 2 3 g_is_lot
def g_is_part : Sv := (sRet (cAndV (c1 (oIsi "tuple") (cVw 2)) (cAndV (c2 oEq (cB1 oLen (aCons (cVw 2) aNil)) (cK (.int 2))) (cAndV (cCall F_is_lot (aCons (cV 0) (aCons (c2 oAt (cVw 2) (cK (.int 0))) aNil))) (cCall F_is_within (aCons (c2 oAt (cVw 2) (cK (.int 1))) (aCons (cK (.int 0)) (aCons (cV 1) aNil))))))))
def F_is_part : List Dt → Rs Dt := runF 3 3 g_is_part
def g_is_showing_of : Sv := (sSeq (sIf (cOr (cNot (cT (c1 (oIsi "tuple") (cVw 1)))) (cOr (cT (c2 oNe (cB1 oLen (aCons (cVw 1) aNil)) (cK (.int 3)))) (cNot (cTru (cCall F_is_within (aCons (c2 oAt (cVw 1) (cK (.int 0))) (aCons (cK (.int 2)) (aCons (cK (.int 100)) aNil)))))))) (sRet (cK (.bl false))) sNil)
  (sSeq (sIf (cOr (cNot (cT (c1 (oIsi "str") (c2 oAt (cVw 1) (cK (.int 1)))))) (cOr (cT (c2 oNinA (c2 oAt (cVw 1) (cK (.int 1))) (cK (.cst [.str "cut", .str "near", .str "up"])))) (cOr (cNot (cT (c1 (oIsi "tuple") (c2 oAt (cVw 1) (cK (.int 2)))))) (cNot (cTru (c2 oAt (cVw 1) (cK (.int 2)))))))) (sRet (cK (.bl false))) sNil)
  (sSeq (sIf (cTru (cLc [2] (cSeqA (c2 oAt (cVw 1) (cK (.int 2)))) (gN 2) (cNot (cTru (cCall F_is_part (aCons (cV 0) (aCons (c2 oAt (cVw 1) (cK (.int 0))) (aCons (cV 2) aNil)))))) (cV 2))) (sRet (cK (.bl false))) sNil)
  (sRet (cCall F_rises (aCons (cLc [3] (cSeqA (c2 oAt (cVw 1) (cK (.int 2)))) (gN 3) tvYes (c2 oAt (cVw 3) (cK (.int 0)))) aNil))))))
def F_is_showing_of : List Dt → Rs Dt := runF 2 4 g_is_showing_of
def b_common_1 : Sv := (sPar 0 1 (aCons (cV 1) (aCons (c2 oMod (cV 0) (cV 1)) aNil)))
def g_common : Sv := (sSeq (sWh 1000 (cT (c2 oNe (cVw 1) (cK (.int 0)))) [] b_common_1)
  (sRet (cV 0)))
def F_common : List Dt → Rs Dt := runF 2 2 g_common
def b_turn_of_1 : Sv := (sSeq (sSet 5 (cIf (cT (c2 oEq (cVw 3) (cK (.str "near")))) (c2 oMul (cK (.int 2)) (cV 2)) (cV 2)))
  (sSet 1 (c2 oMul (c2 oDiv (cV 1) (cCall F_common (aCons (cV 1) (aCons (cV 5) aNil)))) (cV 5))))
def g_turn_of : Sv := (sSeq (sSet 1 (cK (.int 1)))
  (sSeq (sFor (cSeqA (cV 0)) (gT (gsCons (gN 2) (gsCons (gN 3) (gsCons (gN 4) gsNil)))) [2, 3, 4, 5] b_turn_of_1)
  (sRet (cV 1))))
def F_turn_of : List Dt → Rs Dt := runF 1 6 g_turn_of
def b_all_lots_1 : Sv := (sPut 1 (cTup (aCons (cV 2) aNil)) (cK (.bl true)))
def b_all_lots_2 : Sv := (sPut 1 (cV 6) (cK (.bl true)))
def b_all_lots_3 : Sv := (sFor (cSeqA (cV 5)) (gT (gsCons (gN 6) (gsCons (gN 7) gsNil))) [6, 7] b_all_lots_2)
def g_all_lots : Sv := (sSeq (sSetN 1 (cIf (cT (c2 oEq (c2 oAt (cVw 0) (cK (.int 1))) (cK (.str "one")))) (c2 oDis (cTupRg (c2 oAt (cVw 0) (cK (.int 0)))) (cK (.bl true))) (cK (.dct []))))
  (sSeq (sFor (cRng1 (aCons (c2 oAt (cVw 0) (cK (.int 0))) aNil)) (gN 2) [2] b_all_lots_1)
  (sSeq (sFor (cSeqA (c2 oAt (cVw 0) (cK (.int 2)))) (gT (gsCons (gN 3) (gsCons (gN 4) (gsCons (gN 5) gsNil)))) [3, 4, 5, 6, 7] b_all_lots_3)
  (sRet (c1 oSortL (cVw 1))))))
def F_all_lots : List Dt → Rs Dt := runF 1 8 g_all_lots
def b_do_nest_1 : Sv := (sSeq (sSetN 4 (cLc [5] (cSeqA (cV 2)) (gN 5) (cT (c2 oInA (cVw 5) (cVw 3))) (cV 5)))
  (sIf (cAnd (cTru (cVw 4)) (cT (c2 oNe (cB1 oLen (aCons (cVw 4) aNil)) (cB1 oLen (aCons (cVw 2) aNil))))) (sRet (cK (.bl false))) sNil))
def b_do_nest_2 : Sv := (sFor (cSeqA (cCut (cV 0) (pSome (c2 oAdd (cV 1) (cK (.int 1)))) pNo)) (gN 3) [3, 4] b_do_nest_1)
def g_do_nest : Sv := (sSeq (sFor (cEnum (aCons (cV 0) aNil)) (gT (gsCons (gN 1) (gsCons (gN 2) gsNil))) [1, 2, 3, 4] b_do_nest_2)
  (sRet (cK (.bl true))))
def F_do_nest : List Dt → Rs Dt := runF 1 6 g_do_nest
def g_is_poll : Sv := (sSeq (sIf (cOr (cNot (cT (c1 (oIsi "tuple") (cVw 0)))) (cOr (cT (c2 oNe (cB1 oLen (aCons (cVw 0) aNil)) (cK (.int 3)))) (cNot (cTru (cCall F_is_within (aCons (c2 oAt (cVw 0) (cK (.int 0))) (aCons (cK (.int 1)) (aCons (cK (.int 6)) aNil)))))))) (sRet (cK (.bl false))) sNil)
  (sSeq (sIf (cOr (cNot (cT (c1 (oIsi "str") (c2 oAt (cVw 0) (cK (.int 1)))))) (cOr (cT (c2 oNinA (c2 oAt (cVw 0) (cK (.int 1))) (cK (.cst [.str "one", .str "some"])))) (cNot (cT (c1 (oIsi "tuple") (c2 oAt (cVw 0) (cK (.int 2)))))))) (sRet (cK (.bl false))) sNil)
  (sSeq (sIf (cOr (cNot (cT (cChain oLe oLe (cK (.int 1)) (cB1 oLen (aCons (c2 oAt (cVw 0) (cK (.int 2))) aNil)) (cK (.int 3))))) (cTru (cLc [1] (cSeqA (c2 oAt (cVw 0) (cK (.int 2)))) (gN 1) (cNot (cTru (cCall F_is_showing_of (aCons (c2 oAt (cVw 0) (cK (.int 0))) (aCons (cV 1) aNil))))) (cV 1)))) (sRet (cK (.bl false))) sNil)
  (sSeq (sIf (cT (c2 oGt (cCall F_turn_of (aCons (c2 oAt (cVw 0) (cK (.int 2))) aNil)) (cK (.int 1000)))) (sRet (cK (.bl false))) sNil)
  (sSeq (sIf (cT (c2 oEq (c2 oAt (cVw 0) (cK (.int 1))) (cK (.str "some")))) (sRet (cB (cNot (cTru (cLc2 [2, 3, 4] [3, 4] (cSeqA (c2 oAt (cVw 0) (cK (.int 2)))) (gN 2) tvYes (cSeqA (c2 oAt (cVw 2) (cK (.int 2)))) (gT (gsCons (gN 3) (gsCons (gN 4) gsNil))) (cT (c2 oGt (cB1 oLen (aCons (cVw 3) aNil)) (cK (.int 1)))) (cK (.int 1))))))) sNil)
  (sRet (cCall F_do_nest (aCons (cCall F_all_lots (aCons (cV 0) aNil)) aNil))))))))
def F_is_poll : List Dt → Rs Dt := runF 1 5 g_is_poll
def g_look : Sv := (sIf (cNot (cTru (cCall F_is_poll (aCons (cV 0) aNil)))) (sRaise "BadPoll") sNil)
def F_look : List Dt → Rs Dt := runF 1 1 g_look
def g_turn : Sv := (sSeq (sExpr (cCall F_look (aCons (cV 0) aNil)))
  (sRet (cCall F_turn_of (aCons (c2 oAt (cVw 0) (cK (.int 2))) aNil))))
def F_turn : List Dt → Rs Dt := runF 1 1 g_turn
def g_lots : Sv := (sSeq (sExpr (cCall F_look (aCons (cV 0) aNil)))
  (sRet (cCall F_all_lots (aCons (cV 0) aNil))))
def F_lots : List Dt → Rs Dt := runF 1 1 g_lots
def g_with_showing : Sv := (sSeq (sExpr (cCall F_look (aCons (cV 0) aNil)))
  (sSeq (sIf (cNot (cTru (cCall F_is_showing_of (aCons (c2 oAt (cVw 0) (cK (.int 0))) (aCons (cV 1) aNil))))) (sRaise "BadShowing") sNil)
  (sSeq (sSet 2 (c2 oAdd (cCut (cV 0) pNo (pSome (cK (.int 2)))) (cTup (aCons (c2 oAdd (c2 oAt (cVw 0) (cK (.int 2))) (cTup (aCons (cV 1) aNil))) aNil))))
  (sSeq (sIf (cNot (cTru (cCall F_is_poll (aCons (cV 2) aNil)))) (sRaise "BadPoll") sNil)
  (sRet (cV 2))))))
def F_with_showing : List Dt → Rs Dt := runF 2 3 g_with_showing
def e_named_1 : Ev := (cLc [7] (cSeqA (cV 1)) (gN 7) (cNot (cTru (cCall F_is_within (aCons (cV 7) (aCons (cK (.int 0)) (aCons (c2 oSub (c2 oAt (cVw 0) (cK (.int 0))) (cK (.int 1))) aNil)))))) (cV 7))
def e_named_2 : Ev := (cLc [10] (cSeqA (cV 8)) (gN 10) tvYes (c2 oAt (cVw 1) (cV 10)))
def e_named_3 : Ev := (cLc [8, 9] (cSeqA (cV 5)) (gT (gsCons (gN 8) (gsCons (gN 9) gsNil))) tvYes (cTup (aCons (cB1 oTup (aCons (cB1 oSort (aCons e_named_2 aNil)) aNil)) (aCons (cV 9) aNil))))
def b_named_4 : Sv := (sSeq (sSetN 6 e_named_3)
  (sApp 2 (cTup (aCons (cV 3) (aCons (cV 4) (aCons (cB1 oTup (aCons (cB1 oSort (aCons (cVw 6) aNil)) aNil)) aNil))))))
def g_named : Sv := (sSeq (sExpr (cCall F_look (aCons (cV 0) aNil)))
  (sSeq (sIf (cOr (cNot (cT (c1 (oIsi "tuple") (cVw 1)))) (cTru e_named_1)) (sRaise "BadThing") sNil)
  (sSeq (sIf (cT (c2 oNe (cB1 oSort (aCons (cVw 1) aNil)) (cLstRg (c2 oAt (cVw 0) (cK (.int 0)))))) (sRaise "BadThing") sNil)
  (sSeq (sSetN 2 (cLst aNil))
  (sSeq (sFor (cSeqA (c2 oAt (cVw 0) (cK (.int 2)))) (gT (gsCons (gN 3) (gsCons (gN 4) (gsCons (gN 5) gsNil)))) [3, 4, 5, 6] b_named_4)
  (sFz 2 (sRet (c2 oAdd (cCut (cV 0) pNo (pSome (cK (.int 2)))) (cTup (aCons (cB1 oTup (aCons (cV 2) aNil)) aNil))))))))))
def F_named : List Dt → Rs Dt := runF 2 11 g_named
def g_look_number : Sv := (sIf (cNot (cTru (cCall F_is_within (aCons (cV 0) (aCons (cK (.int 1)) (aCons (cK (.int 100000)) aNil)))))) (sRaise "BadNumber") sNil)
def F_look_number : List Dt → Rs Dt := runF 1 1 g_look_number
def g_up_over : Sv := (sRet (c1 oNeg (c2 oDiv (c1 oNeg (cV 0)) (cV 1))))
def F_up_over : List Dt → Rs Dt := runF 2 2 g_up_over
def g_stretch : Sv := (sSeq (sIf (cT (c2 oEq (cVw 2) (cK (.str "cut")))) (sPar 4 5 (aCons (cCall F_up_over (aCons (c2 oMul (cV 3) (cV 0)) (aCons (cV 1) aNil))) (aCons (c2 oSub (cCall F_up_over (aCons (c2 oMul (c2 oAdd (cV 3) (cK (.int 1))) (cV 0)) (aCons (cV 1) aNil))) (cK (.int 1))) aNil))) (sIf (cT (c2 oEq (cVw 2) (cK (.str "up")))) (sPar 4 5 (aCons (c2 oAdd (c2 oDiv (c2 oMul (c2 oSub (cV 3) (cK (.int 1))) (cV 0)) (cV 1)) (cK (.int 1))) (aCons (c2 oDiv (c2 oMul (cV 3) (cV 0)) (cV 1)) aNil))) (sPar 4 5 (aCons (cCall F_up_over (aCons (c2 oMul (c2 oSub (c2 oMul (cK (.int 2)) (cV 3)) (cK (.int 1))) (cV 0)) (aCons (c2 oMul (cK (.int 2)) (cV 1)) aNil))) (aCons (c2 oSub (cCall F_up_over (aCons (c2 oMul (c2 oAdd (c2 oMul (cK (.int 2)) (cV 3)) (cK (.int 1))) (cV 0)) (aCons (c2 oMul (cK (.int 2)) (cV 1)) aNil))) (cK (.int 1))) aNil)))))
  (sRet (cTup (aCons (cB1 oMax2 (aCons (cV 4) (aCons (cK (.int 0)) aNil))) (aCons (cB1 oMin2 (aCons (cV 5) (aCons (cV 0) aNil))) aNil)))))
def F_stretch : List Dt → Rs Dt := runF 4 6 g_stretch
def b_ends_of_1 : Sv := (sSeq (sAsg (cCall F_stretch (aCons (cV 1) (aCons (cV 3) (aCons (cV 4) (aCons (cV 7) aNil))))) (gT (gsCons (gN 8) (gsCons (gN 9) gsNil))))
  (sPut 2 (cV 6) (cTup (aCons (cB1 oMax2 (aCons (cV 8) (aCons (c2 oAt (c2 oAt (cVw 2) (cV 6)) (cK (.int 0))) aNil))) (aCons (cB1 oMin2 (aCons (cV 9) (aCons (c2 oAt (c2 oAt (cVw 2) (cV 6)) (cK (.int 1))) aNil))) aNil)))))
def b_ends_of_2 : Sv := (sFor (cSeqA (cV 5)) (gT (gsCons (gN 6) (gsCons (gN 7) gsNil))) [6, 7, 8, 9] b_ends_of_1)
def g_ends_of : Sv := (sSeq (sSetN 2 (cDc [6] (cSeqA (cCall F_all_lots (aCons (cV 0) aNil))) (gN 6) (cV 6) (cTup (aCons (cK (.int 0)) (aCons (cV 1) aNil)))))
  (sSeq (sIf (cT (c2 oEq (c2 oAt (cVw 0) (cK (.int 1))) (cK (.str "one")))) (sPut 2 (cTupRg (c2 oAt (cVw 0) (cK (.int 0)))) (cTup (aCons (cV 1) (aCons (cV 1) aNil)))) sNil)
  (sSeq (sFor (cSeqA (c2 oAt (cVw 0) (cK (.int 2)))) (gT (gsCons (gN 3) (gsCons (gN 4) (gsCons (gN 5) gsNil)))) [3, 4, 5, 6, 7, 8, 9] b_ends_of_2)
  (sFz 2 (sRet (cV 2))))))
def F_ends_of : List Dt → Rs Dt := runF 2 10 g_ends_of
def g_ends : Sv := (sSeq (sExpr (cCall F_look (aCons (cV 0) aNil)))
  (sSeq (sExpr (cCall F_look_number (aCons (cV 1) aNil)))
  (sSeq (sIf (cOr (cNot (cTru (cCall F_is_lot (aCons (c2 oAt (cVw 0) (cK (.int 0))) (aCons (cV 2) aNil))))) (cT (c2 oNinA (cVw 2) (cCall F_all_lots (aCons (cV 0) aNil))))) (sRaise "BadLot") sNil)
  (sRet (c2 oAt (cCall F_ends_of (aCons (cV 0) (aCons (cV 1) aNil))) (cV 2))))))
def F_ends : List Dt → Rs Dt := runF 3 3 g_ends
def e_within_1 : Ev := (cLc [4] (cSeqA (cV 2)) (gN 4) (cT (c2 oInA (c2 oAt (cVw 3) (cK (.int 0))) (cVw 4))) (cV 4))
def b_within_2 : Sv := (sFz 2 (sIf (cAnd (cT (c2 oLt (cB1 oLen (aCons (cVw 3) aNil)) (cB1 oLen (aCons (cVw 1) aNil)))) (cAnd (cT (c2 oInA (c2 oAt (cVw 3) (cK (.int 0))) (cVw 1))) (cNot (cTru e_within_1)))) (sApp 2 (cV 3)) sNil))
def g_within : Sv := (sSeq (sSetN 2 (cLst aNil))
  (sSeq (sFor (cSeqA (c1 oRev (cV 0))) (gN 3) [3] b_within_2)
  (sRet (cB1 oSort (aCons (cVw 2) aNil)))))
def F_within : List Dt → Rs Dt := runF 2 5 g_within
def g__law_cell : Sv := (sSeq (sIf (cT (c2 oLt (cV 1) (cB1 oLen (aCons (cVw 0) aNil)))) (sRet (c2 oAt (cVw 0) (cV 1))) sNil)
  (sRet (cK (.int 0))))
def F__law_cell : List Dt → Rs Dt := runF 2 2 g__law_cell
def g__law_whole : Sv := (sRet (cAndV (c1 (oIsi "int") (cVw 0)) (cNotV (c1 (oIsi "bool") (cVw 0)))))
def F__law_whole : List Dt → Rs Dt := runF 1 1 g__law_whole
def b__law_row_1 : Sv := (sIf (cT (c2 oLt (cCall F__law_cell (aCons (cV 0) (aCons (cV 1) aNil))) (c2 oPow (cK (.int 10)) (cK (.int 18))))) (sSeq (sSet 2 (c2 oMod (c2 oAdd (c2 oAdd (c2 oAdd (c2 oMul (cV 2) (cK (.int 48271))) (c2 oMul (cK (.int 131)) (cV 4))) (cK (.int 7))) (cCall F__law_cell (aCons (cV 0) (aCons (c2 oMod (c2 oAdd (c2 oAdd (cV 1) (cK (.int 1))) (cV 4)) (cK (.int 20))) aNil)))) (cK (.int 2147483647))))
  (sApp 3 (c2 oMod (c2 oDiv (cV 2) (cK (.int 11))) (cK (.int 1000))))) (sSeq (sApp 3 (c2 oMod (cV 2) (cK (.int 1000))))
  (sSet 2 (c2 oDiv (cV 2) (cK (.int 1000))))))
def g__law_row : Sv := (sSeq (sSet 2 (cCall F__law_cell (aCons (cV 0) (aCons (cV 1) aNil))))
  (sSeq (sSetN 3 (cLst aNil))
  (sSeq (sFor (cRng1 (aCons (cK (.int 60)) aNil)) (gN 4) [4] b__law_row_1)
  (sFz 3 (sRet (cV 3))))))
def F__law_row : List Dt → Rs Dt := runF 2 5 g__law_row
def g__law_in : Sv := (sRet (cAndV (cCall F__law_whole (aCons (cV 0) aNil)) (cChain oLe oLe (cV 1) (cV 0) (cV 2))))
def F__law_in : List Dt → Rs Dt := runF 3 3 g__law_in
def g__law_share : Sv := (sSeq (sIf (cT (c2 oEq (cVw 3) (cK (.str "cut")))) (sRet (c2 oDiv (c2 oMul (cV 2) (cV 0)) (cV 1))) sNil)
  (sSeq (sIf (cT (c2 oEq (cVw 3) (cK (.str "up")))) (sRet (c2 oDiv (c2 oSub (c2 oAdd (c2 oMul (cV 2) (cV 0)) (cV 1)) (cK (.int 1))) (cV 1))) sNil)
  (sRet (c2 oDiv (c2 oAdd (c2 oMul (c2 oMul (cK (.int 2)) (cV 2)) (cV 0)) (cV 1)) (c2 oMul (cK (.int 2)) (cV 1))))))
def F__law_share : List Dt → Rs Dt := runF 4 4 g__law_share
def e__law_spread_1 : Ev := (cLc [7] (cRng1 (aCons (cV 3) aNil)) (gN 7) tvYes (c2 oMod (c2 oAt (cVw 0) (c2 oMod (c2 oAdd (cV 1) (cV 7)) (cK (.int 60)))) (c2 oAdd (cV 2) (cK (.int 1)))))
def b__law_spread_2 : Sv := (sAugL 5 (c2 oMod (c2 oAt (cVw 0) (c2 oMod (c2 oAdd (cV 1) (c2 oMul (cV 6) (c2 oAdd (cK (.int 1)) (c2 oMod (c2 oAt (cVw 0) (c2 oMod (cV 1) (cK (.int 60)))) (cK (.int 3)))))) (cK (.int 60)))) (cV 3)) (cK (.int 1)))
def g__law_spread : Sv := (sSeq (sIf (cT (c2 oEq (cVw 4) (cK (.str "some")))) (sRet e__law_spread_1) sNil)
  (sSeq (sSetN 5 (c2 oRep (cLst (aCons (cK (.int 0)) aNil)) (cV 3)))
  (sSeq (sFor (cRng1 (aCons (cV 2) aNil)) (gN 6) [6] b__law_spread_2)
  (sFz 5 (sRet (cV 5))))))
def F__law_spread : List Dt → Rs Dt := runF 5 8 g__law_spread
def e__law_nest_1 : Ev := (cLc [7] (cRng1 (aCons (cV 2) aNil)) (gN 7) tvYes (c2 oMod (c2 oAdd (cV 7) (c2 oAt (cVw 0) (c2 oMod (cV 1) (cK (.int 60))))) (cV 2)))
def e__law_nest_2 : Ev := (cLc [7] (cRng1 (aCons (cV 2) aNil)) (gN 7) tvYes (cTup (aCons (cV 7) aNil)))
def e__law_nest_3 : Ev := (cLc [8] (cRng2 (aCons (cK (.int 2)) (aCons (c2 oAdd (cV 2) (cK (.int 1))) aNil))) (gN 8) tvYes (cB1 oTup (aCons (cB1 oSort (aCons (cCut (cV 4) pNo (pSome (cV 8))) aNil)) aNil)))
def e__law_nest_4 : Ev := (cLc [9] (cSeqA (cV 5)) (gN 9) (cT (c2 oNe (cVw 9) (cTup aNil))) (cV 9))
def g__law_nest : Sv := (sSeq (sSetN 4 e__law_nest_1)
  (sSeq (sSetN 5 e__law_nest_2)
  (sSeq (sIf (cT (c2 oEq (cVw 3) (cK (.str "some")))) (sFz 5 (sRet (cV 5))) sNil)
  (sSeq (sIf (cT (c2 oEq (c2 oMod (c2 oAt (cVw 0) (c2 oMod (c2 oAdd (cV 1) (cK (.int 1))) (cK (.int 60)))) (cK (.int 2))) (cK (.int 0)))) (sFz 4 (sSetN 5 (c2 oCat (cVw 5) e__law_nest_3))) (sSeq (sSet 6 (c2 oDiv (c2 oAdd (cV 2) (cK (.int 1))) (cK (.int 2))))
  (sFz 4 (sSetN 5 (c2 oCat (cVw 5) (cLst (aCons (cB1 oTup (aCons (cB1 oSort (aCons (cCut (cV 4) pNo (pSome (cV 6))) aNil)) aNil)) (aCons (cB1 oTup (aCons (cB1 oSort (aCons (cCut (cV 4) (pSome (cV 6)) pNo) aNil)) aNil)) (aCons (cTupRg (cV 2)) aNil)))))))))
  (sFz 5 (sRet (c1 oSortSet e__law_nest_4)))))))
def F__law_nest : List Dt → Rs Dt := runF 4 10 g__law_nest
def e__law_poll_1 : Ev := (cLc [16] (cSeqA (cV 14)) (gN 16) tvYes (c2 oAt (cVw 7) (cV 16)))
def b__law_poll_2 : Sv := (sSeq (sSet 15 (cCall F__law_share (aCons (cB1 oSum (aCons e__law_poll_1 aNil)) (aCons (cV 6) (aCons (cV 10) (aCons (cV 11) aNil))))))
  (sSeq (sIf (cT (c2 oEq (c2 oMod (c2 oAt (cVw 3) (c2 oMod (c2 oAdd (c2 oAdd (cK (.int 20)) (c2 oMul (cK (.int 7)) (cV 9))) (cV 13)) (cK (.int 60)))) (cK (.int 17))) (cK (.int 0)))) (sSet 15 (c2 oMod (c2 oAdd (cV 15) (cK (.int 1))) (c2 oAdd (cV 10) (cK (.int 1))))) sNil)
  (sIf (cT (c2 oGt (c2 oMod (c2 oAt (cVw 3) (c2 oMod (c2 oAdd (c2 oAdd (cK (.int 40)) (c2 oMul (cK (.int 7)) (cV 9))) (cV 13)) (cK (.int 60)))) (cK (.int 4))) (cK (.int 0)))) (sApp 12 (cTup (aCons (cV 14) (aCons (cV 15) aNil)))) sNil)))
def b__law_poll_3 : Sv := (sSeq (sSet 10 (c2 oAt (cLst (aCons (cK (.int 2)) (aCons (cK (.int 3)) (aCons (cK (.int 4)) (aCons (cK (.int 5)) (aCons (cK (.int 7)) (aCons (cK (.int 10)) (aCons (cK (.int 20)) (aCons (cK (.int 100)) aNil))))))))) (c2 oMod (c2 oAt (cVw 3) (c2 oAdd (cK (.int 6)) (cV 9))) (cIf (cAnd (cT (c2 oEq (cVw 9) (cK (.int 0)))) (cT (c2 oEq (c2 oMod (c2 oAt (cVw 3) (cK (.int 5))) (cK (.int 2))) (cK (.int 0))))) (cK (.int 8)) (cK (.int 6))))))
  (sSeq (sSet 11 (c2 oAt (cLst (aCons (cK (.str "cut")) (aCons (cK (.str "near")) (aCons (cK (.str "up")) (aCons (cK (.str "near")) aNil))))) (c2 oMod (c2 oAt (cVw 3) (c2 oAdd (cK (.int 8)) (cV 9))) (cK (.int 4)))))
  (sSeq (sSetN 12 (cLst aNil))
  (sSeq (sFor (cEnum (aCons (cCall F__law_nest (aCons (cV 3) (aCons (cK (.int 10)) (aCons (cV 4) (aCons (cV 5) aNil))))) aNil)) (gT (gsCons (gN 13) (gsCons (gN 14) gsNil))) [13, 14, 15] b__law_poll_2)
  (sSeq (sIf (cT (c2 oEq (cVw 12) (cLst aNil))) (sSetN 12 (cLst (aCons (cTup (aCons (cTup (aCons (cK (.int 0)) aNil)) (aCons (cCall F__law_share (aCons (c2 oAt (cVw 7) (cK (.int 0))) (aCons (cV 6) (aCons (cV 10) (aCons (cV 11) aNil))))) aNil))) aNil))) sNil)
  (sFz 12 (sApp 8 (cTup (aCons (cV 10) (aCons (cV 11) (aCons (cB1 oTup (aCons (cV 12) aNil)) aNil)))))))))))
def g__law_poll : Sv := (sSeq (sSet 3 (cCall F__law_row (aCons (cV 0) (aCons (cV 1) aNil))))
  (sSeq (sSet 4 (c2 oAdd (cK (.int 1)) (c2 oMod (c2 oAt (cVw 3) (cK (.int 0))) (cV 2))))
  (sSeq (sSet 5 (cIf (cT (c2 oEq (c2 oMod (c2 oAt (cVw 3) (cK (.int 1))) (cK (.int 4))) (cK (.int 0)))) (cK (.str "some")) (cK (.str "one"))))
  (sSeq (sSet 6 (c2 oAdd (cK (.int 1)) (c2 oMod (c2 oAt (cVw 3) (cK (.int 2))) (c2 oAt (cLst (aCons (cK (.int 8)) (aCons (cK (.int 30)) (aCons (cK (.int 60)) aNil)))) (c2 oMod (c2 oAt (cVw 3) (cK (.int 3))) (cK (.int 3)))))))
  (sSeq (sSet 7 (cCall F__law_spread (aCons (cV 3) (aCons (cK (.int 4)) (aCons (cV 6) (aCons (cV 4) (aCons (cV 5) aNil)))))))
  (sSeq (sSetN 8 (cLst aNil))
  (sSeq (sFor (cRng1 (aCons (c2 oAdd (cK (.int 1)) (c2 oMod (c2 oAt (cVw 3) (cK (.int 5))) (cK (.int 2)))) aNil)) (gN 9) [9, 10, 11, 12, 13, 14, 15] b__law_poll_3)
  (sFz 8 (sRet (cTup (aCons (cV 4) (aCons (cV 5) (aCons (cB1 oTup (aCons (cV 8) aNil)) aNil)))))))))))))
def F__law_poll : List Dt → Rs Dt := runF 3 17 g__law_poll
def b__law_gcd_1 : Sv := (sPar 0 1 (aCons (cV 1) (aCons (c2 oMod (cV 0) (cV 1)) aNil)))
def g__law_gcd : Sv := (sSeq (sWh 1000 (cT (c2 oNe (cVw 1) (cK (.int 0)))) [] b__law_gcd_1)
  (sRet (cV 0)))
def F__law_gcd : List Dt → Rs Dt := runF 2 2 g__law_gcd
def b__law_turn_1 : Sv := (sSeq (sSet 5 (cIf (cT (c2 oEq (cVw 3) (cK (.str "near")))) (c2 oMul (cK (.int 2)) (cV 2)) (cV 2)))
  (sSet 1 (c2 oDiv (c2 oMul (cV 1) (cV 5)) (cCall F__law_gcd (aCons (cV 1) (aCons (cV 5) aNil))))))
def g__law_turn : Sv := (sSeq (sSet 1 (cK (.int 1)))
  (sSeq (sFor (cSeqA (c2 oAt (cVw 0) (cK (.int 2)))) (gT (gsCons (gN 2) (gsCons (gN 3) (gsCons (gN 4) gsNil)))) [2, 3, 4, 5] b__law_turn_1)
  (sRet (cV 1))))
def F__law_turn : List Dt → Rs Dt := runF 1 6 g__law_turn
def e__law_lots_1 : Ev := (cLc [5] (cRng1 (aCons (c2 oAt (cVw 0) (cK (.int 0))) aNil)) (gN 5) tvYes (cTup (aCons (cV 5) aNil)))
def e__law_lots_2 : Ev := (cLc [7, 8] (cSeqA (cV 4)) (gT (gsCons (gN 7) (gsCons (gN 8) gsNil))) tvYes (cV 7))
def b__law_lots_3 : Sv := (sSetN 1 (c2 oCat (cVw 1) e__law_lots_2))
def e__law_lots_4 : Ev := (cLc [7] (cSeqA (cV 1)) (gN 7) tvYes (cTup (aCons (cB1 oLen (aCons (cVw 7) aNil)) (aCons (cV 7) aNil))))
def e__law_lots_5 : Ev := (cLc [6, 7] (cSeqA (c1 oSortSet e__law_lots_4)) (gT (gsCons (gN 6) (gsCons (gN 7) gsNil))) tvYes (cV 7))
def g__law_lots : Sv := (sSeq (sSetN 1 e__law_lots_1)
  (sSeq (sIf (cT (c2 oEq (c2 oAt (cVw 0) (cK (.int 1))) (cK (.str "one")))) (sApp 1 (cTupRg (c2 oAt (cVw 0) (cK (.int 0))))) sNil)
  (sSeq (sFor (cSeqA (c2 oAt (cVw 0) (cK (.int 2)))) (gT (gsCons (gN 2) (gsCons (gN 3) (gsCons (gN 4) gsNil)))) [2, 3, 4] b__law_lots_3)
  (sFz 1 (sRet e__law_lots_5)))))
def F__law_lots : List Dt → Rs Dt := runF 1 9 g__law_lots
def e__law_is_lot_1 : Ev := (cLc [2] (cSeqA (cV 1)) (gN 2) (cNot (cTru (cCall F__law_in (aCons (cV 2) (aCons (cK (.int 0)) (aCons (c2 oSub (cV 0) (cK (.int 1))) aNil)))))) (cV 2))
def g__law_is_lot : Sv := (sSeq (sIf (cOr (cNot (cT (c1 (oIsi "tuple") (cVw 1)))) (cOr (cT (c2 oEq (cVw 1) (cTup aNil))) (cT (c2 oNe e__law_is_lot_1 (cLst aNil))))) (sRet (cK (.bl false))) sNil)
  (sRet (c2 oEq (cB1 oLst (aCons (cV 1) aNil)) (c1 oSortSet (cVw 1)))))
def F__law_is_lot : List Dt → Rs Dt := runF 2 3 g__law_is_lot
def b__law_is_showing_1 : Sv := (sSeq (sIf (cOr (cNot (cT (c1 (oIsi "tuple") (cVw 2)))) (cOr (cT (c2 oNe (cB1 oLen (aCons (cVw 2) aNil)) (cK (.int 2)))) (cNot (cTru (cCall F__law_is_lot (aCons (cV 0) (aCons (c2 oAt (cVw 2) (cK (.int 0))) aNil))))))) (sRet (cK (.bl false))) sNil)
  (sIf (cNot (cTru (cCall F__law_in (aCons (c2 oAt (cVw 2) (cK (.int 1))) (aCons (cK (.int 0)) (aCons (c2 oAt (cVw 1) (cK (.int 0))) aNil)))))) (sRet (cK (.bl false))) sNil))
def e__law_is_showing_2 : Ev := (cLc [3, 4] (cZip (aCons (c2 oAt (cVw 1) (cK (.int 2))) (aCons (cCut (c2 oAt (cVw 1) (cK (.int 2))) (pSome (cK (.int 1))) pNo) aNil))) (gT (gsCons (gN 3) (gsCons (gN 4) gsNil))) (cT (c2 oGe (c2 oAt (cVw 3) (cK (.int 0))) (c2 oAt (cVw 4) (cK (.int 0))))) (cK (.int 1)))
def g__law_is_showing : Sv := (sSeq (sIf (cOr (cNot (cT (c1 (oIsi "tuple") (cVw 1)))) (cOr (cT (c2 oNe (cB1 oLen (aCons (cVw 1) aNil)) (cK (.int 3)))) (cNot (cTru (cCall F__law_in (aCons (c2 oAt (cVw 1) (cK (.int 0))) (aCons (cK (.int 2)) (aCons (cK (.int 100)) aNil)))))))) (sRet (cK (.bl false))) sNil)
  (sSeq (sIf (cOr (cNot (cT (c1 (oIsi "str") (c2 oAt (cVw 1) (cK (.int 1)))))) (cT (c2 oNinA (c2 oAt (cVw 1) (cK (.int 1))) (cTup (aCons (cK (.str "cut")) (aCons (cK (.str "near")) (aCons (cK (.str "up")) aNil))))))) (sRet (cK (.bl false))) sNil)
  (sSeq (sIf (cOr (cNot (cT (c1 (oIsi "tuple") (c2 oAt (cVw 1) (cK (.int 2)))))) (cT (c2 oEq (c2 oAt (cVw 1) (cK (.int 2))) (cTup aNil)))) (sRet (cK (.bl false))) sNil)
  (sSeq (sFor (cSeqA (c2 oAt (cVw 1) (cK (.int 2)))) (gN 2) [2] b__law_is_showing_1)
  (sRet (c2 oEq e__law_is_showing_2 (cLst aNil)))))))
def F__law_is_showing : List Dt → Rs Dt := runF 2 5 g__law_is_showing
def e__law_is_poll_1 : Ev := (cLc [8] (cSeqA (c2 oAt (cVw 0) (cK (.int 2)))) (gN 8) (cNot (cTru (cCall F__law_is_showing (aCons (c2 oAt (cVw 0) (cK (.int 0))) (aCons (cV 8) aNil))))) (cV 8))
def e__law_is_poll_2 : Ev := (cLc [8] (cSeqA (cV 3)) (gN 8) (cT (c2 oInA (cVw 8) (c2 oAt (cVw 1) (cV 2)))) (cV 8))
def b__law_is_poll_3 : Sv := (sSeq (sSetN 4 e__law_is_poll_2)
  (sIf (cAnd (cT (c2 oEq (c2 oAt (cVw 0) (cK (.int 1))) (cK (.str "one")))) (cAnd (cT (c2 oNe (cVw 4) (cLst aNil))) (cT (c2 oLt (cB1 oLen (aCons (cVw 4) aNil)) (cB1 oLen (aCons (cVw 3) aNil)))))) (sRet (cK (.bl false))) sNil))
def b__law_is_poll_4 : Sv := (sFor (cSeqA (cCut (cV 1) pNo (pSome (cV 2)))) (gN 3) [3, 4] b__law_is_poll_3)
def e__law_is_poll_5 : Ev := (cLc [3, 9] (cSeqA (cV 7)) (gT (gsCons (gN 3) (gsCons (gN 9) gsNil))) (cT (c2 oGt (cB1 oLen (aCons (cVw 3) aNil)) (cK (.int 1)))) (cV 3))
def b__law_is_poll_6 : Sv := (sIf (cAnd (cT (c2 oEq (c2 oAt (cVw 0) (cK (.int 1))) (cK (.str "some")))) (cT (c2 oNe e__law_is_poll_5 (cLst aNil)))) (sRet (cK (.bl false))) sNil)
def g__law_is_poll : Sv := (sSeq (sIf (cOr (cNot (cT (c1 (oIsi "tuple") (cVw 0)))) (cOr (cT (c2 oNe (cB1 oLen (aCons (cVw 0) aNil)) (cK (.int 3)))) (cOr (cNot (cTru (cCall F__law_in (aCons (c2 oAt (cVw 0) (cK (.int 0))) (aCons (cK (.int 1)) (aCons (cK (.int 6)) aNil)))))) (cNot (cT (c1 (oIsi "str") (c2 oAt (cVw 0) (cK (.int 1))))))))) (sRet (cK (.bl false))) sNil)
  (sSeq (sIf (cOr (cT (c2 oNinA (c2 oAt (cVw 0) (cK (.int 1))) (cTup (aCons (cK (.str "one")) (aCons (cK (.str "some")) aNil))))) (cOr (cNot (cT (c1 (oIsi "tuple") (c2 oAt (cVw 0) (cK (.int 2)))))) (cNot (cT (cChain oLe oLe (cK (.int 1)) (cB1 oLen (aCons (c2 oAt (cVw 0) (cK (.int 2))) aNil)) (cK (.int 3))))))) (sRet (cK (.bl false))) sNil)
  (sSeq (sIf (cOr (cT (c2 oNe e__law_is_poll_1 (cLst aNil))) (cT (c2 oGt (cCall F__law_turn (aCons (cV 0) aNil)) (cK (.int 1000))))) (sRet (cK (.bl false))) sNil)
  (sSeq (sSet 1 (cCall F__law_lots (aCons (cV 0) aNil)))
  (sSeq (sFor (cRng1 (aCons (cB1 oLen (aCons (cVw 1) aNil)) aNil)) (gN 2) [2, 3, 4] b__law_is_poll_4)
  (sSeq (sFor (cSeqA (c2 oAt (cVw 0) (cK (.int 2)))) (gT (gsCons (gN 5) (gsCons (gN 6) (gsCons (gN 7) gsNil)))) [5, 6, 7] b__law_is_poll_6)
  (sRet (cK (.bl true)))))))))
def F__law_is_poll : List Dt → Rs Dt := runF 1 10 g__law_is_poll
def g__law_bent_poll : Sv := (sSeq (sAsg (cV 0) (gT (gsCons (gN 2) (gsCons (gN 3) (gsCons (gN 4) gsNil)))))
  (sSeq (sAsg (c2 oAt (cVw 4) (cK (.int 0))) (gT (gsCons (gN 5) (gsCons (gN 6) (gsCons (gN 7) gsNil)))))
  (sSeq (sSetN 8 (cLst (aCons (cTup (aCons (cK (.int 1)) (aCons (cV 6) (aCons (cV 7) aNil)))) (aCons (cTup (aCons (cK (.int 101)) (aCons (cV 6) (aCons (cV 7) aNil)))) (aCons (cTup (aCons (cV 5) (aCons (cK (.str "round")) (aCons (cV 7) aNil)))) (aCons (cTup (aCons (cV 5) (aCons (cK .non) (aCons (cV 7) aNil)))) (aCons (cTup (aCons (cV 5) (aCons (cV 6) (aCons (cTup aNil) aNil)))) aNil)))))))
  (sSeq (sSetN 8 (c2 oCat (cVw 8) (cLst (aCons (cTup (aCons (cV 5) (aCons (cV 6) (aCons (c2 oAdd (cV 7) (cCut (cV 7) pNo (pSome (cK (.int 1))))) aNil)))) (aCons (cTup (aCons (cV 5) (aCons (cV 6) (aCons (cB1 oLst (aCons (cV 7) aNil)) aNil)))) aNil)))))
  (sSeq (sSetN 8 (c2 oCat (cVw 8) (cLst (aCons (cTup (aCons (cV 5) (aCons (cV 6) (aCons (cTup (aCons (cTup (aCons (c2 oAt (c2 oAt (cVw 7) (cK (.int 0))) (cK (.int 0))) (aCons (c2 oAdd (cV 5) (cK (.int 1))) aNil))) aNil)) aNil)))) (aCons (cK .non) aNil)))))
  (sSeq (sSetN 8 (c2 oCat (cVw 8) (cLst (aCons (cTup (aCons (cV 5) (aCons (cV 6) (aCons (cTup (aCons (cTup (aCons (cTup aNil) (aCons (cK (.int 0)) aNil))) aNil)) aNil)))) (aCons (cTup (aCons (cV 5) (aCons (cV 6) (aCons (cTup (aCons (cTup (aCons (cTup (aCons (cV 2) aNil)) (aCons (cK (.int 0)) aNil))) aNil)) aNil)))) (aCons (cTup (aCons (cV 5) (aCons (cV 6) (aCons (cTup (aCons (cTup (aCons (cTup (aCons (cK (.int 0)) (aCons (cK (.int 0)) aNil))) (aCons (cK (.int 0)) aNil))) aNil)) aNil)))) aNil))))))
  (sSeq (sSetN 8 (c2 oCat (cVw 8) (cLst (aCons (cTup (aCons (cV 5) (aCons (cV 6) (aCons (cTup (aCons (cTup (aCons (cTup (aCons (cK (.int 0)) (aCons (cK (.int 1)) aNil))) (aCons (cK (.int 0)) aNil))) (aCons (cTup (aCons (cTup (aCons (cK (.int 1)) (aCons (cK (.int 2)) aNil))) (aCons (cK (.int 0)) aNil))) aNil))) aNil)))) (aCons (cTup (aCons (cK (.int 100)) (aCons (cK (.str "near")) (aCons (cTup (aCons (cTup (aCons (cTup (aCons (cK (.int 0)) aNil)) (aCons (cK (.int 1)) aNil))) aNil)) aNil)))) aNil)))))
  (sSeq (sSetN 8 (c2 oCat (cVw 8) (cLst (aCons (cTup (aCons (cK (.int 99)) (aCons (cK (.str "near")) (aCons (cTup (aCons (cTup (aCons (cTup (aCons (cK (.int 0)) aNil)) (aCons (cK (.int 0)) aNil))) aNil)) aNil)))) (aCons (cTup (aCons (cK (.bl true)) (aCons (cV 6) (aCons (cV 7) aNil)))) (aCons (cTup (aCons (cK (.int 7)) (aCons (cK (.str "near")) (aCons (cTup (aCons (cTup (aCons (cTup (aCons (cK (.int 0)) aNil)) (aCons (cK (.int 3)) aNil))) aNil)) aNil)))) aNil))))))
  (sSeq (sApp 8 (cTup (aCons (cK (.int 77)) (aCons (cK (.str "cut")) (aCons (cTup (aCons (cTup (aCons (cTup (aCons (cK (.int 0)) aNil)) (aCons (cK (.int 3)) aNil))) aNil)) aNil)))))
  (sSeq (sPar 9 10 (aCons (c2 oAt (cVw 8) (c2 oMod (c2 oAt (cVw 1) (cK (.int 1))) (cK (.int 18)))) (aCons (c2 oAt (cVw 8) (c2 oMod (c2 oAt (cVw 1) (cK (.int 3))) (cK (.int 18)))) aNil)))
  (sSeq (sSet 11 (cLst (aCons (cTup (aCons (cV 2) (aCons (cV 3) (aCons (c2 oAdd (cTup (aCons (cV 9) aNil)) (cCut (cV 4) (pSome (cK (.int 1))) pNo)) aNil)))) (aCons (cTup (aCons (cV 2) (aCons (cV 3) (aCons (c2 oAdd (cV 4) (cTup (aCons (c2 oAt (cVw 8) (c2 oAdd (cK (.int 13)) (c2 oMod (c2 oAt (cVw 1) (cK (.int 2))) (cK (.int 2))))) aNil))) aNil)))) aNil))))
  (sSeq (sSet 11 (c2 oCat (cVw 11) (cLst (aCons (cK .non) (aCons (cTup (aCons (cV 2) (aCons (cV 3) aNil))) (aCons (cLst (aCons (cV 2) (aCons (cV 3) (aCons (cV 4) aNil)))) (aCons (cTup (aCons (cK (.int 0)) (aCons (cV 3) (aCons (cV 4) aNil)))) (aCons (cTup (aCons (cK (.int 7)) (aCons (cV 3) (aCons (cV 4) aNil)))) aNil))))))))
  (sSeq (sSet 11 (c2 oCat (cVw 11) (cLst (aCons (cTup (aCons (cV 2) (aCons (cK (.str "all")) (aCons (cV 4) aNil)))) (aCons (cTup (aCons (cV 2) (aCons (cV 3) (aCons (cTup aNil) aNil)))) (aCons (cTup (aCons (cV 2) (aCons (cV 3) (aCons (c2 oMul (cV 4) (cK (.int 4))) aNil)))) aNil))))))
  (sSeq (sSet 11 (c2 oCat (cVw 11) (cLst (aCons (cTup (aCons (cV 2) (aCons (cK (.str "some")) (aCons (cV 4) aNil)))) (aCons (cTup (aCons (cV 2) (aCons (cV 3) (aCons (cTup (aCons (cV 9) (aCons (cV 10) aNil))) aNil)))) (aCons (cTup (aCons (cK (.int 5)) (aCons (cV 3) (aCons (cTup (aCons (c2 oAt (cVw 8) (cK (.int 12))) aNil)) aNil)))) aNil))))))
  (sSeq (sSet 11 (c2 oCat (cVw 11) (cLst (aCons (cTup (aCons (cV 2) (aCons (cV 3) (aCons (cTup (aCons (cTup (aCons (cK (.int 125)) (aCons (cK (.str "cut")) (aCons (cV 7) aNil)))) aNil)) aNil)))) (aCons (cTup (aCons (cV 2) (aCons (cV 3) (aCons (cTup (aCons (cV 9) (aCons (c2 oAt (cVw 8) (cK (.int 13))) (aCons (cV 10) aNil)))) aNil)))) aNil)))))
  (sRet (c2 oAt (cVw 11) (c2 oMod (c2 oAt (cVw 1) (cK (.int 4))) (cK (.int 15))))))))))))))))))))
def F__law_bent_poll : List Dt → Rs Dt := runF 2 12 g__law_bent_poll
def g_share_of : Sv := (sSeq (sIf (cT (c2 oEq (cVw 3) (cK (.str "cut")))) (sRet (c2 oDiv (c2 oMul (cV 2) (cV 0)) (cV 1))) sNil)
  (sSeq (sIf (cT (c2 oEq (cVw 3) (cK (.str "up")))) (sRet (cCall F_up_over (aCons (c2 oMul (cV 2) (cV 0)) (aCons (cV 1) aNil)))) sNil)
  (sRet (c2 oDiv (c2 oAdd (c2 oMul (c2 oMul (cK (.int 2)) (cV 2)) (cV 0)) (cV 1)) (c2 oMul (cK (.int 2)) (cV 1))))))
def F_share_of : List Dt → Rs Dt := runF 4 4 g_share_of
def g_share : Sv := (sSeq (sExpr (cCall F_look_number (aCons (cV 1) aNil)))
  (sSeq (sIf (cNot (cTru (cCall F_is_within (aCons (cV 0) (aCons (cK (.int 0)) (aCons (cV 1) aNil)))))) (sRaise "BadCounts") sNil)
  (sSeq (sIf (cOr (cNot (cTru (cCall F_is_within (aCons (cV 2) (aCons (cK (.int 2)) (aCons (cK (.int 100)) aNil)))))) (cOr (cNot (cT (c1 (oIsi "str") (cVw 3)))) (cT (c2 oNinA (cVw 3) (cK (.cst [.str "cut", .str "near", .str "up"])))))) (sRaise "BadShowing") sNil)
  (sRet (cCall F_share_of (aCons (cV 0) (aCons (cV 1) (aCons (cV 2) (aCons (cV 3) aNil)))))))))
def F_share : List Dt → Rs Dt := runF 4 4 g_share
def g__law_asked : Sv := (sRet (c2 oAdd (cK (.int 1)) (c2 oMod (c2 oAt (cVw 0) (c2 oMod (cV 1) (cK (.int 60)))) (c2 oAt (cLst (aCons (cK (.int 6)) (aCons (cK (.int 30)) (aCons (cV 2) aNil)))) (c2 oMod (c2 oAt (cVw 0) (c2 oMod (c2 oAdd (cV 1) (cK (.int 1))) (cK (.int 60)))) (cK (.int 3)))))))
def F__law_asked : List Dt → Rs Dt := runF 3 3 g__law_asked
def b__law_ends_1 : Sv := (sIf (cT (c2 oEq (cVw 8) (cVw 2))) (sSeq (sIf (cT (c2 oEq (cVw 6) (cK (.str "cut")))) (sSeq (sSet 10 (c1 oNeg (c2 oDiv (c2 oMul (c1 oNeg (cV 9)) (cV 1)) (cV 5))))
  (sSet 11 (c2 oSub (c1 oNeg (c2 oDiv (c2 oMul (c1 oNeg (c2 oAdd (cV 9) (cK (.int 1)))) (cV 1)) (cV 5))) (cK (.int 1))))) (sIf (cT (c2 oEq (cVw 6) (cK (.str "up")))) (sSeq (sSet 10 (c2 oAdd (c2 oDiv (c2 oMul (c2 oSub (cV 9) (cK (.int 1))) (cV 1)) (cV 5)) (cK (.int 1))))
  (sSet 11 (c2 oDiv (c2 oMul (cV 9) (cV 1)) (cV 5)))) (sSeq (sSet 10 (c1 oNeg (c2 oDiv (c2 oMul (c1 oNeg (c2 oSub (c2 oMul (cK (.int 2)) (cV 9)) (cK (.int 1)))) (cV 1)) (c2 oMul (cK (.int 2)) (cV 5)))))
  (sSet 11 (c2 oSub (c1 oNeg (c2 oDiv (c2 oMul (c1 oNeg (c2 oAdd (c2 oMul (cK (.int 2)) (cV 9)) (cK (.int 1)))) (cV 1)) (c2 oMul (cK (.int 2)) (cV 5)))) (cK (.int 1)))))))
  (sPar 3 4 (aCons (cB1 oMax2 (aCons (cV 3) (aCons (cV 10) aNil))) (aCons (cB1 oMin2 (aCons (cV 4) (aCons (cV 11) aNil))) aNil)))) sNil)
def b__law_ends_2 : Sv := (sFor (cSeqA (cV 7)) (gT (gsCons (gN 8) (gsCons (gN 9) gsNil))) [8, 9, 10, 11] b__law_ends_1)
def g__law_ends : Sv := (sSeq (sPar 3 4 (aCons (cK (.int 0)) (aCons (cV 1) aNil)))
  (sSeq (sIf (cAnd (cT (c2 oEq (c2 oAt (cVw 0) (cK (.int 1))) (cK (.str "one")))) (cT (c2 oEq (cB1 oLen (aCons (cVw 2) aNil)) (c2 oAt (cVw 0) (cK (.int 0)))))) (sSet 3 (cV 1)) sNil)
  (sSeq (sFor (cSeqA (c2 oAt (cVw 0) (cK (.int 2)))) (gT (gsCons (gN 5) (gsCons (gN 6) (gsCons (gN 7) gsNil)))) [5, 6, 7, 8, 9, 10, 11] b__law_ends_2)
  (sRet (cTup (aCons (cV 3) (aCons (cV 4) aNil)))))))
def F__law_ends : List Dt → Rs Dt := runF 3 12 g__law_ends
def e_are_counts_1 : Ev := (cLc [3] (cSeqA (cV 2)) (gN 3) (cNot (cTru (cCall F_is_within (aCons (cV 3) (aCons (cK (.int 0)) (aCons (cV 1) aNil)))))) (cV 3))
def g_are_counts : Sv := (sSeq (sIf (cOr (cNot (cT (c1 (oIsi "tuple") (cVw 2)))) (cT (c2 oNe (cB1 oLen (aCons (cVw 2) aNil)) (c2 oAt (cVw 0) (cK (.int 0)))))) (sRet (cK (.bl false))) sNil)
  (sSeq (sIf (cTru e_are_counts_1) (sRet (cK (.bl false))) sNil)
  (sRet (cOrV (c2 oEq (c2 oAt (cVw 0) (cK (.int 1))) (cK (.str "some"))) (c2 oEq (cB1 oSum (aCons (cVw 2) aNil)) (cVw 1))))))
def F_are_counts : List Dt → Rs Dt := runF 3 4 g_are_counts
def e_shows_1 : Ev := (cLc [8] (cSeqA (cV 6)) (gN 8) tvYes (c2 oAt (cVw 2) (cV 8)))
def b_shows_2 : Sv := (sIf (cT (c2 oNe (cCall F_share_of (aCons (cB1 oSum (aCons e_shows_1 aNil)) (aCons (cV 1) (aCons (cV 3) (aCons (cV 4) aNil))))) (cVw 7))) (sRet (cK (.bl false))) sNil)
def b_shows_3 : Sv := (sFor (cSeqA (cV 5)) (gT (gsCons (gN 6) (gsCons (gN 7) gsNil))) [6, 7] b_shows_2)
def g_shows : Sv := (sSeq (sExpr (cCall F_look (aCons (cV 0) aNil)))
  (sSeq (sExpr (cCall F_look_number (aCons (cV 1) aNil)))
  (sSeq (sIf (cNot (cTru (cCall F_are_counts (aCons (cV 0) (aCons (cV 1) (aCons (cV 2) aNil)))))) (sRaise "BadCounts") sNil)
  (sSeq (sFor (cSeqA (c2 oAt (cVw 0) (cK (.int 2)))) (gT (gsCons (gN 3) (gsCons (gN 4) (gsCons (gN 5) gsNil)))) [3, 4, 5, 6, 7] b_shows_3)
  (sRet (cK (.bl true)))))))
def F_shows : List Dt → Rs Dt := runF 3 9 g_shows
def b_joined_1 : Sv := (sAugL 3 (c2 oAdd (cV 4) (cV 6)) (c2 oMul (cV 5) (c2 oAt (cVw 1) (cV 6))))
def b_joined_2 : Sv := (sIf (cT (c2 oGt (cV 5) (cK (.int 0)))) (sFor (cRng1 (aCons (c2 oSub (c2 oAdd (cV 2) (cK (.int 1))) (cV 4)) aNil)) (gN 6) [6] b_joined_1) sNil)
def g_joined : Sv := (sSeq (sSetN 3 (c2 oRep (cLst (aCons (cK (.int 0)) aNil)) (c2 oAdd (cV 2) (cK (.int 1)))))
  (sSeq (sFor (cEnum (aCons (cV 0) aNil)) (gT (gsCons (gN 4) (gsCons (gN 5) gsNil))) [4, 5, 6] b_joined_2)
  (sFz 3 (sRet (cV 3)))))
def F_joined : List Dt → Rs Dt := runF 3 7 g_joined
def g_look_thing : Sv := (sIf (cNot (cTru (cCall F_is_within (aCons (cV 1) (aCons (cK (.int 0)) (aCons (c2 oSub (c2 oAt (cVw 0) (cK (.int 0))) (cK (.int 1))) aNil)))))) (sRaise "BadThing") sNil)
def F_look_thing : List Dt → Rs Dt := runF 2 2 g_look_thing
def e__law_shows_1 : Ev := (cLc [8] (cSeqA (cV 6)) (gN 8) tvYes (c2 oAt (cVw 2) (cV 8)))
def b__law_shows_2 : Sv := (sIf (cT (c2 oNe (cCall F__law_share (aCons (cB1 oSum (aCons e__law_shows_1 aNil)) (aCons (cV 1) (aCons (cV 3) (aCons (cV 4) aNil))))) (cVw 7))) (sRet (cK (.bl false))) sNil)
def b__law_shows_3 : Sv := (sFor (cSeqA (cV 5)) (gT (gsCons (gN 6) (gsCons (gN 7) gsNil))) [6, 7] b__law_shows_2)
def g__law_shows : Sv := (sSeq (sFor (cSeqA (c2 oAt (cVw 0) (cK (.int 2)))) (gT (gsCons (gN 3) (gsCons (gN 4) (gsCons (gN 5) gsNil)))) [3, 4, 5, 6, 7] b__law_shows_3)
  (sRet (cK (.bl true))))
def F__law_shows : List Dt → Rs Dt := runF 3 9 g__law_shows
def e__law_all_1 : Ev := (cLc [7] (cRng1 (aCons (c2 oAdd (cV 6) (cK (.int 1))) aNil)) (gN 7) tvYes (c2 oAdd (cV 5) (cTup (aCons (cV 7) aNil))))
def b__law_all_2 : Sv := (sSeq (sSet 6 (cIf (cT (c2 oEq (c2 oAt (cVw 0) (cK (.int 1))) (cK (.str "one")))) (c2 oSub (cV 1) (cB1 oSum (aCons (cVw 5) aNil))) (cV 1)))
  (sIf (cAnd (cT (c2 oEq (c2 oAt (cVw 0) (cK (.int 1))) (cK (.str "one")))) (cT (c2 oEq (cVw 3) (c2 oSub (c2 oAt (cVw 0) (cK (.int 0))) (cK (.int 1)))))) (sApp 4 (c2 oAdd (cV 5) (cTup (aCons (cV 6) aNil)))) (sSetN 4 (c2 oCat (cVw 4) e__law_all_1))))
def b__law_all_3 : Sv := (sSeq (sSetN 4 (cLst aNil))
  (sSeq (sFor (cSeqA (cV 2)) (gN 5) [5, 6] b__law_all_2)
  (sFz 4 (sSet 2 (cV 4)))))
def e__law_all_4 : Ev := (cLc [5] (cSeqA (cV 2)) (gN 5) (cTru (cCall F__law_shows (aCons (cV 0) (aCons (cV 1) (aCons (cV 5) aNil))))) (cV 5))
def g__law_all : Sv := (sSeq (sSet 2 (cLst (aCons (cTup aNil) aNil)))
  (sSeq (sFor (cRng1 (aCons (c2 oAt (cVw 0) (cK (.int 0))) aNil)) (gN 3) [3, 4, 5, 6] b__law_all_3)
  (sRet e__law_all_4)))
def F__law_all : List Dt → Rs Dt := runF 2 8 g__law_all
def b__wall_1 : Sv := sNil
def g__wall : Sv := (sWh 1000 (cTru (cK (.bl true))) [] b__wall_1)
def F__wall : List Dt → Rs Dt := runF 1 1 g__wall
def e_is_known_1 : Ev := (cLc [2] (cSeqA (cV 1)) (gN 2) (cOr (cNot (cT (c1 (oIsi "int") (cVw 2)))) (cT (c1 (oIsi "bool") (cVw 2)))) (cV 2))
def g_is_known : Sv := (sSeq (sIf (cOr (cNot (cT (c1 (oIsi "tuple") (cVw 1)))) (cTru e_is_known_1)) (sRet (cK (.bl false))) sNil)
  (sRet (c2 oInA (cVw 1) (cVw 0))))
def F_is_known : List Dt → Rs Dt := runF 2 3 g_is_known
def g_without : Sv := (sSeq (sExpr (cCall F_look (aCons (cV 0) aNil)))
  (sSeq (sIf (cOr (cNot (cTru (cCall F_is_within (aCons (cV 1) (aCons (cK (.int 0)) (aCons (c2 oSub (cB1 oLen (aCons (c2 oAt (cVw 0) (cK (.int 2))) aNil)) (cK (.int 1))) aNil)))))) (cT (c2 oEq (cB1 oLen (aCons (c2 oAt (cVw 0) (cK (.int 2))) aNil)) (cK (.int 1))))) (sRaise "BadPoll") sNil)
  (sRet (c2 oAdd (cCut (cV 0) pNo (pSome (cK (.int 2)))) (cTup (aCons (c2 oAdd (cCut (c2 oAt (cVw 0) (cK (.int 2))) pNo (pSome (cV 1))) (cCut (c2 oAt (cVw 0) (cK (.int 2))) (pSome (c2 oAdd (cV 1) (cK (.int 1)))) pNo)) aNil))))))
def F_without : List Dt → Rs Dt := runF 2 2 g_without
def g_look_bound : Sv := (sIf (cNot (cTru (cCall F_is_within (aCons (cV 0) (aCons (cK (.int 1)) (aCons (cK (.int 300)) aNil)))))) (sRaise "BadNumber") sNil)
def F_look_bound : List Dt → Rs Dt := runF 1 1 g_look_bound
def e_poll_of_1 : Ev := (cLc [8] (cSeqA (cV 7)) (gN 8) tvYes (c2 oAt (cVw 2) (cV 8)))
def e_poll_of_2 : Ev := (cLc [7] (cSeqA (cV 5)) (gN 7) tvYes (cTup (aCons (cV 7) (aCons (cCall F_share_of (aCons (cB1 oSum (aCons e_poll_of_1 aNil)) (aCons (cV 1) (aCons (cV 3) (aCons (cV 4) aNil))))) aNil))))
def g_poll_of : Sv := (sSeq (sSetN 6 e_poll_of_2)
  (sFz 6 (sRet (cTup (aCons (cB1 oLen (aCons (cVw 2) aNil)) (aCons (cV 0) (aCons (cTup (aCons (cTup (aCons (cV 3) (aCons (cV 4) (aCons (cB1 oTup (aCons (cV 6) aNil)) aNil)))) aNil)) aNil)))))))
def F_poll_of : List Dt → Rs Dt := runF 6 9 g_poll_of
def e_look_counts_1 : Ev := (cLc [5] (cSeqA (cV 4)) (gN 5) (cNot (cTru (cCall F_is_lot (aCons (cB1 oLen (aCons (cVw 2) aNil)) (aCons (cV 5) aNil))))) (cV 5))
def g_look_counts : Sv := (sSeq (sExpr (cCall F_look_number (aCons (cV 1) aNil)))
  (sSeq (sIf (cOr (cNot (cT (c1 (oIsi "str") (cVw 0)))) (cOr (cT (c2 oNinA (cVw 0) (cK (.cst [.str "one", .str "some"])))) (cNot (cT (c1 (oIsi "tuple") (cVw 2)))))) (sRaise "BadCounts") sNil)
  (sSeq (sIf (cOr (cNot (cT (cChain oLe oLe (cK (.int 1)) (cB1 oLen (aCons (cVw 2) aNil)) (cK (.int 6))))) (cNot (cTru (cCall F_are_counts (aCons (cTup (aCons (cB1 oLen (aCons (cVw 2) aNil)) (aCons (cV 0) (aCons (cTup aNil) aNil)))) (aCons (cV 1) (aCons (cV 2) aNil))))))) (sRaise "BadCounts") sNil)
  (sSeq (sIf (cOr (cNot (cT (c1 (oIsi "str") (cVw 3)))) (cT (c2 oNinA (cVw 3) (cK (.cst [.str "cut", .str "near", .str "up"]))))) (sRaise "BadShowing") sNil)
  (sSeq (sIf (cOr (cNot (cT (c1 (oIsi "tuple") (cVw 4)))) (cOr (cNot (cTru (cVw 4))) (cTru e_look_counts_1))) (sRaise "BadLot") sNil)
  (sIf (cNot (cTru (cCall F_is_poll (aCons (cCall F_poll_of (aCons (cV 0) (aCons (cV 1) (aCons (cV 2) (aCons (cK (.int 2)) (aCons (cV 3) (aCons (cV 4) aNil))))))) aNil)))) (sRaise "BadLot") sNil))))))
def F_look_counts : List Dt → Rs Dt := runF 5 6 g_look_counts
def g_shown : Sv := (sSeq (sExpr (cCall F_look_counts (aCons (cV 0) (aCons (cV 1) (aCons (cV 2) (aCons (cV 4) (aCons (cV 5) aNil)))))))
  (sSeq (sIf (cNot (cTru (cCall F_is_within (aCons (cV 3) (aCons (cK (.int 2)) (aCons (cK (.int 100)) aNil)))))) (sRaise "BadShowing") sNil)
  (sRet (cCall F_poll_of (aCons (cV 0) (aCons (cV 1) (aCons (cV 2) (aCons (cV 3) (aCons (cV 4) (aCons (cV 5) aNil))))))))))
def F_shown : List Dt → Rs Dt := runF 6 6 g_shown
end Sh
namespace Sh
open PySem L2 Dl
theorem E_isW (d : Dt) (lo hi : Int) (h : plain d = true) : F_is_within [d, .int lo, .int hi] = .ok (.bl (isW d lo hi)) := by
  cases d <;> first | exact Bool.noConfusion h | skip
  all_goals simp [F_is_within, g_is_within, oIsi, isW]
  rename_i i
  by_cases h1 : lo ≤ i <;> simp [h1]
theorem E_lookN (d : Dt) (h : plain d = true) : F_look_number [d] = if isW d 1 100000 then .ok .non else .ex "BadNumber" := by
  simp [F_look_number, g_look_number, E_isW _ _ _ h]
  cases isW d 1 100000 <;> simp
theorem E_cell (ns : List Int) (k : Int) (h : 0 ≤ k) : F__law_cell [.scr ns, .int k] = .ok (.int (at0 ns k)) := by
  simp [F__law_cell, g__law_cell]
  by_cases hk : k < (ns.length : Int)
  · simp [hk]
    rw [atI_int h hk]
    have hn : k.toNat < ns.length := by omega
    simp [hn, at0]
  · simp [hk, at0]
    have hn : ns.length ≤ k.toNat := by omega
    simp [hn]
theorem row_loop (ns : List Int) (at_ : Int) (ha : 0 ≤ at_) : ∀ (ts : List Int) (c : Int) (found : List Int), (∀ t ∈ ts, 0 ≤ t) → (∀ v ∈ found, 0 ≤ v ∧ v < 1000) → found.length + ts.length ≤ 1000 →
    ∃ (c' : Int) (found' : List Int), found'.length = found.length + ts.length ∧ (∀ v ∈ found', 0 ≤ v ∧ v < 1000) ∧
    goFor (gN 4) [4] b__law_row_1 (ts.map Dt.int) [.va (.scr ns), .va (.int at_), .va (.int c), .ow (.lst (found.map Dt.int)), .no] =
    .nx [.va (.scr ns), .va (.int at_), .va (.int c'), .ow (.lst (found'.map Dt.int)), .no]
  | [], c, found, _, hf, _ => ⟨c, found, rfl, hf, rfl⟩
  | t :: ts, c, found, ht, hf, hl => by
    have ht0 := ht t List.mem_cons_self
    have hm : 0 ≤ (at_ + 1 + t) % 20 := Int.emod_nonneg _ (by decide)
    have hl2 : found.length ≤ 16000000 := by have : (t :: ts).length = ts.length + 1 := rfl; omega
    by_cases hc : at0 ns at_ < 1000000000000000000
    · have hb : ∀ v ∈ found ++ [(c * 48271 + 131 * t + 7 + at0 ns ((at_ + 1 + t) % 20)) % 2147483647 / 11 % 1000], 0 ≤ v ∧ v < 1000 := by
        intro v hv
        rcases List.mem_append.mp hv with hv | hv
        · exact hf v hv
        · have := List.mem_singleton.mp hv; subst this
          exact ⟨Int.emod_nonneg _ (by decide), Int.emod_lt_of_pos _ (by decide)⟩
      obtain ⟨c', f', h1, h2, h3⟩ := row_loop ns at_ ha ts ((c * 48271 + 131 * t + 7 + at0 ns ((at_ + 1 + t) % 20)) % 2147483647) (found ++ [(c * 48271 + 131 * t + 7 + at0 ns ((at_ + 1 + t) % 20)) % 2147483647 / 11 % 1000]) (fun x hx => ht x (List.mem_cons_of_mem _ hx)) hb (by simp only [List.length_append, List.length_cons, List.length_nil] at hl ⊢; omega)
      refine ⟨c', f', by rw [h1]; simp only [List.length_append, List.length_cons, List.length_nil]; omega, h2, ?_⟩
      rw [← h3, List.map_cons]
      refine (goFor_step (ρ1 := [.va (.scr ns), .va (.int at_), .va (.int c), .ow (.lst (found.map Dt.int)), .va (.int t)]) (ρ2 := [.va (.scr ns), .va (.int at_), .va (.int ((c * 48271 + 131 * t + 7 + at0 ns ((at_ + 1 + t) % 20)) % 2147483647)), .ow (.lst ((found ++ [(c * 48271 + 131 * t + 7 + at0 ns ((at_ + 1 + t) % 20)) % 2147483647 / 11 % 1000]).map Dt.int)), .va (.int t)]) rfl ?_).trans rfl
      simp [b__law_row_1, E_cell _ _ ha, E_cell _ _ hm, hc, small, lim, hl2]
    · have hb : ∀ v ∈ found ++ [c % 1000], 0 ≤ v ∧ v < 1000 := by
        intro v hv
        rcases List.mem_append.mp hv with hv | hv
        · exact hf v hv
        · have := List.mem_singleton.mp hv; subst this
          exact ⟨Int.emod_nonneg _ (by decide), Int.emod_lt_of_pos _ (by decide)⟩
      obtain ⟨c', f', h1, h2, h3⟩ := row_loop ns at_ ha ts (c / 1000) (found ++ [c % 1000]) (fun x hx => ht x (List.mem_cons_of_mem _ hx)) hb (by simp only [List.length_append, List.length_cons, List.length_nil] at hl ⊢; omega)
      refine ⟨c', f', by rw [h1]; simp only [List.length_append, List.length_cons, List.length_nil]; omega, h2, ?_⟩
      rw [← h3, List.map_cons]
      refine (goFor_step (ρ1 := [.va (.scr ns), .va (.int at_), .va (.int c), .ow (.lst (found.map Dt.int)), .va (.int t)]) (ρ2 := [.va (.scr ns), .va (.int at_), .va (.int (c / 1000)), .ow (.lst ((found ++ [c % 1000]).map Dt.int)), .va (.int t)]) rfl ?_).trans rfl
      simp [b__law_row_1, E_cell _ _ ha, E_cell _ _ hm, hc, small, lim, hl2]

theorem rngD_map (n : Nat) : rngD 0 n = ((List.range n).map fun i => ((i : Nat) : Int)).map Dt.int := by
  unfold rngD
  rw [List.map_map]
  refine List.map_congr_left fun i _ => ?_
  simp
theorem E_row (ns : List Int) (a : Int) (ha : 0 ≤ a) : ∃ row : List Int, row.length = 60 ∧ (∀ v ∈ row, 0 ≤ v ∧ v < 1000) ∧ F__law_row [.scr ns, .int a] = .ok (.lst (row.map Dt.int)) := by
  obtain ⟨c', f', h1, h2, h3⟩ := row_loop ns a ha ((List.range 60).map fun i => ((i : Nat) : Int)) (at0 ns a) [] (fun t ht => by
    obtain ⟨i, _, rfl⟩ := List.mem_map.mp ht; omega) (fun v hv => absurd hv (by simp)) (by simp)
  refine ⟨f', by rw [h1]; simp, h2, ?_⟩
  rw [← rngD_map] at h3
  simp [F__law_row, g__law_row, E_cell _ _ ha, inR, lim]
  simp at h3
  rw [h3]
  simp
theorem E_asked {row : List Int} (hl : row.length = 60) (hb : ∀ v ∈ row, 0 ≤ v ∧ v < 1000) (a m : Int) (ha : 0 ≤ a) (hm : 1 ≤ m) : ∃ k, 1 ≤ k ∧ (k ≤ 30 ∨ k ≤ m) ∧ F__law_asked [.lst (row.map Dt.int), .int a, .int m] = .ok (.int k) := by
  have i1 : 0 ≤ a % 60 := Int.emod_nonneg _ (by decide)
  have i2 : a % 60 < row.length := by rw [hl]; exact Int.emod_lt_of_pos _ (by decide)
  have j1 : 0 ≤ (a + 1) % 60 := Int.emod_nonneg _ (by decide)
  have j2 : (a + 1) % 60 < row.length := by rw [hl]; exact Int.emod_lt_of_pos _ (by decide)
  have t1 : 0 ≤ at0 row ((a + 1) % 60) % 3 := Int.emod_nonneg _ (by decide)
  have t2 : at0 row ((a + 1) % 60) % 3 < 3 := Int.emod_lt_of_pos _ (by decide)
  have t3 : at0 row ((a + 1) % 60) % 3 = 0 ∨ at0 row ((a + 1) % 60) % 3 = 1 ∨ at0 row ((a + 1) % 60) % 3 = 2 := by omega
  have e0 : atI [Dt.int 6, Dt.int 30, Dt.int m] 0 = some (.int 6) := rfl
  have e1 : atI [Dt.int 6, Dt.int 30, Dt.int m] 1 = some (.int 30) := rfl
  have e2 : atI [Dt.int 6, Dt.int 30, Dt.int m] 2 = some (.int m) := rfl
  have m0 := (hb _ (at0_mem i1 i2)).1
  rcases t3 with q | q | q
  · refine ⟨1 + at0 row (a % 60) % 6, by have := Int.emod_nonneg (at0 row (a % 60)) (b := 6) (by decide); omega, .inl (by have := Int.emod_lt_of_pos (at0 row (a % 60)) (b := 6) (by decide); omega), ?_⟩
    simp [F__law_asked, g__law_asked, atI_map i1 i2, atI_map j1 j2, q, e0, lim]
  · refine ⟨1 + at0 row (a % 60) % 30, by have := Int.emod_nonneg (at0 row (a % 60)) (b := 30) (by decide); omega, .inl (by have := Int.emod_lt_of_pos (at0 row (a % 60)) (b := 30) (by decide); omega), ?_⟩
    simp [F__law_asked, g__law_asked, atI_map i1 i2, atI_map j1 j2, q, e1, lim]
  · refine ⟨1 + at0 row (a % 60) % m, by have := Int.emod_nonneg (at0 row (a % 60)) (b := m) (by omega); omega, .inr (by have := Int.emod_lt_of_pos (at0 row (a % 60)) (b := m) (by omega); omega), ?_⟩
    have : 0 < m := by omega
    simp [F__law_asked, g__law_asked, atI_map i1 i2, atI_map j1 j2, q, e2, lim, this]


/-! ### what is_poll looks at -/
theorem E_in (i lo hi : Int) : F_is_within [.int i, .int lo, .int hi] = .ok (.bl (decide (lo ≤ i) && decide (i ≤ hi))) := E_isW (.int i) lo hi rfl
/-- no neighbour is no less than the next -/
def adjB {α : Type} (ge : α → α → Bool) : List α → Bool
  | x :: y :: r => !ge x y && adjB ge (y :: r)
  | _ => true
theorem adj_pairs {α : Type} (ge : α → α → Bool) : ∀ xs : List α, ((xs.zip xs.tail).filter fun p => ge p.1 p.2).isEmpty = adjB ge xs
  | [] => rfl
  | [x] => rfl
  | x :: y :: r => by
    have ih := adj_pairs ge (y :: r)
    show (((x, y) :: (y :: r).zip r).filter fun p => ge p.1 p.2).isEmpty = (!ge x y && adjB ge (y :: r))
    have e : (y :: r).zip r = (y :: r).zip ((y :: r).tail) := rfl
    rw [e, List.filter_cons, ← ih]
    cases h : ge x y <;> simp [h]
theorem zipD_map {α : Type} (q : α → Dt) : ∀ xs ys : List α, zipD (xs.map q) (ys.map q) = (xs.zip ys).map fun p => Dt.tup [q p.1, q p.2]
  | [], _ => by simp
  | _ :: _, [] => by simp
  | x :: xs, y :: ys => by simp [zipD_map q xs ys]
theorem cut_1 (ds : List Dt) : cutD ds (some 1) none = ds.tail := by
  show (ds.drop (HT.sIx ds.length 0 (some ((1 : Nat) : Int)))).take (HT.sIx ds.length ds.length none - HT.sIx ds.length 0 (some ((1 : Nat) : Int))) = _
  rw [HT.sIx_nat, HT.sIx_none]
  cases ds with
  | nil => rfl
  | cons d ds =>
    have : min 1 (d :: ds).length = 1 := by simp
    rw [this]
    simp
theorem rises_loop {α : Type} (q : α → Dt) (ge : α → α → Bool) (xs : List α) (v : Dt) (h : ∀ x y, oGe (q x) (q y) = some (.bl (ge x y))) :
    goLc (gT (gsCons (gN 1) (gsCons (gN 2) gsNil))) (cT (c2 oGe (cV 1) (cV 2))) (cK (.int 1)) (zipD (xs.map q) (xs.map q).tail) [.va v, .no, .no] = .ok (((xs.zip xs.tail).filter fun p => ge p.1 p.2).map fun _ => Dt.int 1) := by
  rw [← List.map_tail, zipD_map]
  refine goLc_map (fun p : α × α => Dt.tup [q p.1, q p.2]) (fun _ => Dt.int 1) (fun p : α × α => ge p.1 p.2) _ ?_
  intro p _
  refine ⟨[.va v, .va (q p.1), .va (q p.2)], rfl, ?_, fun _ => rfl⟩
  simp [h, -oGe]
theorem E_rises_any {α : Type} (q : α → Dt) (ge : α → α → Bool) (xs : List α) (h : ∀ x y, oGe (q x) (q y) = some (.bl (ge x y))) (hl : xs.length ≤ 1000000) (v : Dt) (hv : v = .tup (xs.map q) ∨ v = .lst (xs.map q)) : F_rises [v] = .ok (.bl (adjB ge xs)) := by
  have e := rises_loop q ge xs v h
  have l1 : (zipD (xs.map q) (xs.map q).tail).length ≤ 16000000 := by rw [zipD_len]; simp; omega
  have l2 : (((xs.zip xs.tail).filter fun p => ge p.1 p.2).map fun _ => Dt.int 1).isEmpty = adjB ge xs := by rw [← adj_pairs]; simp
  generalize (((xs.zip xs.tail).filter fun p => ge p.1 p.2).map fun _ => Dt.int 1) = out at e l2
  rcases hv with rfl | rfl <;> simp only [F_rises, g_rises, runF, List.length_cons, List.length_nil, if_true, List.map_cons, List.map_nil, List.cons_append, List.nil_append, List.replicate, sRet, rob, cB, cNot, cTru, cLc, cZip, aCons, aNil, cV, cCut, pSome, pNo, cK, Rs.bind, List.getElem?_cons_zero, oCut, cut_1, zipO, fgt, List.foldl, List.set, lim, l1, e, truD, ofO, Nat.zero_add, Nat.reduceSub, Nat.reduceAdd, l2, Bool.not_not]
theorem ge_int (x y : Int) : oGe (.int x) (.int y) = some (.bl (decide (y ≤ x))) := rfl
theorem ge_lot (x y : List Int) : oGe (lotD x) (lotD y) = some (.bl (geI x y)) := by simp [lotD]
def inB (n i : Int) : Bool := decide (0 ≤ i) && decide (i ≤ n - 1)
def lotB (n : Int) (l : List Int) : Bool := !l.isEmpty && (l.all (inB n) && adjB (fun x y => decide (y ≤ x)) l)
theorem none_out {α : Type} (b : α → Bool) (xs : List α) : (xs.filter fun x => !b x).isEmpty = xs.all b := by
  induction xs with
  | nil => rfl
  | cons x xs ih =>
    rw [List.filter_cons, List.all_cons, ← ih]
    cases h : b x <;> simp [h]
theorem lot_loop (n : Int) (l : List Int) (v : Dt) : goLc (gN 2) (cNot (cTru (cCall F_is_within (aCons (cV 2) (aCons (cK (.int 0)) (aCons (c2 oSub (cV 0) (cK (.int 1))) aNil)))))) (cV 2) (l.map .int) [.va (.int n), .va v, .no] = .ok ((l.filter fun i => !inB n i).map Dt.int) := by
  refine goLc_map Dt.int Dt.int (fun i => !inB n i) l ?_
  intro i _
  refine ⟨[.va (.int n), .va v, .va (.int i)], rfl, ?_, fun _ => rfl⟩
  simp [E_in, inB]
theorem isi_tup (ds : List Dt) : oIsi "tuple" (.tup ds) = some (.bl true) := by simp [oIsi]
theorem E_lot (n : Int) (l : List Int) (hl : l.length ≤ 1000000) : F_is_lot [.int n, lotD l] = .ok (.bl (lotB n l)) := by
  have e := lot_loop n l (lotD l)
  have r := E_rises_any Dt.int (fun x y => decide (y ≤ x)) l ge_int hl (lotD l) (.inl rfl)
  have l1 : (l.map Dt.int).length ≤ 16000000 := by simp; omega
  have e1 : (l.map Dt.int).isEmpty = l.isEmpty := by simp
  have e2 : ((l.filter fun i => !inB n i).map Dt.int).isEmpty = l.all (inB n) := by rw [← none_out]; simp
  generalize ((l.filter fun i => !inB n i).map Dt.int) = out at e e2
  unfold lotB
  simp only [lotD] at e r ⊢
  cases h1 : l.isEmpty <;> cases h2 : l.all (inB n) <;> rw [h1] at e1 <;> rw [h2] at e2 <;>
    simp only [F_is_lot, g_is_lot, isi_tup, l1, e, e1, e2, r, runF, List.length_cons, List.length_nil, if_true, if_false, List.map_cons, List.map_nil, List.cons_append, List.nil_append, List.replicate, sSeq, sIf, sRet, sNil, sSet, sSetN, sPar, sAsg, sFz, fz, sFor, sExpr, sRaise, sWh, rob, cOr, cAnd, cNot, cT, cTru, cB, cIf, c1, c2, cV, cVw, cK, cAndV, cOrV, cNotV, cChain, aCons, aNil, cCall, cB1, cTup, cLst, cLc, cSeqA, cRng1, cRng2, cEnum, enumO, cZip, zipO, cCut, pSome, pNo, oCut, gT, gsCons, gsNil, gN, Rs.bind, Option.bind, Option.map, ofO, cond, truD, fgt, List.foldl, List.set, lim, List.getElem?_cons_zero, List.getElem?_cons_succ, Nat.zero_add, Nat.reduceSub, Nat.reduceAdd, Nat.reduceLeDiff, Nat.reduceEqDiff, Bool.not_true, Bool.not_false, Bool.not_not, Bool.false_and, Bool.true_and, Bool.and_true, Bool.and_false, Bool.false_or, Bool.true_or, Bool.or_true, Bool.or_false, decide_true, decide_false, oNe_int, oEq_int, oEq_str, oNe_str]
theorem len2 (a b : Dt) : oLen [.tup [a, b]] = some (.int 2) := rfl
theorem len3 (a b c : Dt) : oLen [.tup [a, b, c]] = some (.int 3) := rfl
theorem at20 (a b : Dt) : oAt (.tup [a, b]) (.int 0) = some a := rfl
theorem at21 (a b : Dt) : oAt (.tup [a, b]) (.int 1) = some b := rfl
theorem at30 (a b c : Dt) : oAt (.tup [a, b, c]) (.int 0) = some a := rfl
theorem at31 (a b c : Dt) : oAt (.tup [a, b, c]) (.int 1) = some b := rfl
theorem at32 (a b c : Dt) : oAt (.tup [a, b, c]) (.int 2) = some c := rfl
theorem isi_str (x : Str) : oIsi "str" (.str x) = some (.bl true) := by simp [oIsi]
theorem dec_refl {α : Type} [DecidableEq α] (x : α) : decide (x = x) = true := by simp
def partB (n u : Int) (p : List Int × Int) : Bool := lotB n p.1 && (decide (0 ≤ p.2) && decide (p.2 ≤ u))
theorem E_part (n u : Int) (p : List Int × Int) (hl : p.1.length ≤ 1000000) : F_is_part [.int n, .int u, ptD p] = .ok (.bl (partB n u p)) := by
  have e := E_lot n p.1 hl
  have e2 := E_in p.2 0 u
  unfold partB
  simp only [ptD]
  cases h : lotB n p.1 <;> rw [h] at e <;>
    simp only [F_is_part, g_is_part, isi_tup, len2, at20, at21, e, e2, dec_refl, runF, List.length_cons, List.length_nil, if_true, if_false, List.map_cons, List.map_nil, List.cons_append, List.nil_append, List.replicate, sSeq, sIf, sRet, sNil, sSet, sSetN, sPar, sAsg, sFz, fz, sFor, sExpr, sRaise, sWh, rob, cOr, cAnd, cNot, cT, cTru, cB, cIf, c1, c2, cV, cVw, cK, cAndV, cOrV, cNotV, cChain, aCons, aNil, cCall, cB1, cTup, cLst, cLc, cSeqA, cRng1, cRng2, cEnum, enumO, cZip, zipO, cCut, pSome, pNo, oCut, gT, gsCons, gsNil, gN, Rs.bind, Option.bind, Option.map, ofO, cond, truD, fgt, List.foldl, List.set, lim, List.getElem?_cons_zero, List.getElem?_cons_succ, Nat.zero_add, Nat.reduceSub, Nat.reduceAdd, Nat.reduceLeDiff, Nat.reduceEqDiff, Bool.not_true, Bool.not_false, Bool.not_not, Bool.false_and, Bool.true_and, Bool.and_true, Bool.and_false, Bool.false_or, Bool.true_or, Bool.or_true, Bool.or_false, decide_true, decide_false, oNe_int, oEq_int, oEq_str, oNe_str]
/-- the lots of a showing rise -/
def shB (n : Int) (s : Sh) : Bool := (decide (2 ≤ s.u) && decide (s.u ≤ 100)) && (decide (s.w = "cut" ∨ s.w = "near" ∨ s.w = "up") && (!s.ps.isEmpty && (s.ps.all (partB n s.u) && adjB geI (s.ps.map (·.1)))))
theorem in_words (x : Str) : oNinA (.str x) (.cst [.str "cut", .str "near", .str "up"]) = some (.bl (!decide (x = "cut" ∨ x = "near" ∨ x = "up"))) := by
  show (inD (.str x) (.cst [.str "cut", .str "near", .str "up"])).map (fun b => Dt.bl (!b)) = _
  have e : inD (.str x) (.cst [.str "cut", .str "near", .str "up"]) = some (("cut" : Str) == x || (("near" : Str) == x || (("up" : Str) == x || false))) := rfl
  rw [e]
  have c : (("cut" : Str) == x || (("near" : Str) == x || (("up" : Str) == x || false))) = decide (x = "cut" ∨ x = "near" ∨ x = "up") := by
    rw [Bool.eq_iff_iff]
    simp only [Bool.or_eq_true, beq_iff_eq, decide_eq_true_eq, Bool.false_eq_true, or_false]
    exact ⟨fun h => h.imp Eq.symm (Or.imp Eq.symm Eq.symm), fun h => h.imp Eq.symm (Or.imp Eq.symm Eq.symm)⟩
  rw [c]; rfl
theorem part_loop (n : Int) (s : Sh) (v : Dt) (hv : v = shD s) (hl : ∀ p ∈ s.ps, p.1.length ≤ 1000000) : goLc (gN 2) (cNot (cTru (cCall F_is_part (aCons (cV 0) (aCons (c2 oAt (cVw 1) (cK (.int 0))) (aCons (cV 2) aNil)))))) (cV 2) (s.ps.map ptD) [.va (.int n), .va v, .no, .no] = .ok ((s.ps.filter fun p => !partB n s.u p).map ptD) := by
  subst hv
  refine goLc_map ptD ptD (fun p => !partB n s.u p) s.ps ?_
  intro p hp
  refine ⟨[.va (.int n), .va (shD s), .va (ptD p), .no], rfl, ?_, fun _ => rfl⟩
  simp only [shD, at30, E_part n s.u p (hl p hp), runF, List.length_cons, List.length_nil, if_true, if_false, List.map_cons, List.map_nil, List.cons_append, List.nil_append, List.replicate, sSeq, sIf, sRet, sNil, sSet, sSetN, sPar, sAsg, sFz, fz, sFor, sExpr, sRaise, sWh, rob, cOr, cAnd, cNot, cT, cTru, cB, cIf, c1, c2, cV, cVw, cK, cAndV, cOrV, cNotV, cChain, aCons, aNil, cCall, cB1, cTup, cLst, cLc, cSeqA, cRng1, cRng2, cEnum, enumO, cZip, zipO, cCut, pSome, pNo, oCut, gT, gsCons, gsNil, gN, Rs.bind, Option.bind, Option.map, ofO, cond, truD, fgt, List.foldl, List.set, lim, List.getElem?_cons_zero, List.getElem?_cons_succ, Nat.zero_add, Nat.reduceSub, Nat.reduceAdd, Nat.reduceLeDiff, Nat.reduceEqDiff, Bool.not_true, Bool.not_false, Bool.not_not, Bool.false_and, Bool.true_and, Bool.and_true, Bool.and_false, Bool.false_or, Bool.true_or, Bool.or_true, Bool.or_false, decide_true, decide_false, oNe_int, oEq_int, oEq_str, oNe_str]
theorem lots_loop (n : Int) (s : Sh) (v : Dt) : goLc (gN 3) tvYes (c2 oAt (cVw 3) (cK (.int 0))) (s.ps.map ptD) [.va (.int n), .va v, .no, .no] = .ok ((s.ps.map (·.1)).map lotD) := by
  rw [List.map_map]
  refine goLc_all ptD (lotD ∘ (·.1)) s.ps ?_
  intro p hp
  refine ⟨[.va (.int n), .va v, .no, .va (ptD p)], rfl, ?_⟩
  simp only [ptD, at20, Function.comp_apply, runF, List.length_cons, List.length_nil, if_true, if_false, List.map_cons, List.map_nil, List.cons_append, List.nil_append, List.replicate, sSeq, sIf, sRet, sNil, sSet, sSetN, sPar, sAsg, sFz, fz, sFor, sExpr, sRaise, sWh, rob, cOr, cAnd, cNot, cT, cTru, cB, cIf, c1, c2, cV, cVw, cK, cAndV, cOrV, cNotV, cChain, aCons, aNil, cCall, cB1, cTup, cLst, cLc, cSeqA, cRng1, cRng2, cEnum, enumO, cZip, zipO, cCut, pSome, pNo, oCut, gT, gsCons, gsNil, gN, Rs.bind, Option.bind, Option.map, ofO, cond, truD, fgt, List.foldl, List.set, lim, List.getElem?_cons_zero, List.getElem?_cons_succ, Nat.zero_add, Nat.reduceSub, Nat.reduceAdd, Nat.reduceLeDiff, Nat.reduceEqDiff, Bool.not_true, Bool.not_false, Bool.not_not, Bool.false_and, Bool.true_and, Bool.and_true, Bool.and_false, Bool.false_or, Bool.true_or, Bool.or_true, Bool.or_false, decide_true, decide_false, oNe_int, oEq_int, oEq_str, oNe_str]
theorem E_show (n : Int) (s : Sh) (hl : ∀ p ∈ s.ps, p.1.length ≤ 1000000) (hs : s.ps.length ≤ 1000000) : F_is_showing_of [.int n, shD s] = .ok (.bl (shB n s)) := by
  have e1 := part_loop n s (shD s) rfl hl
  have e2 := lots_loop n s (shD s)
  have e3 := E_rises_any lotD geI (s.ps.map (·.1)) ge_lot (by simpa using hs) (.lst ((s.ps.map (·.1)).map lotD)) (.inr rfl)
  have e4 := E_in s.u 2 100
  have e5 : ((s.ps.filter fun p => !partB n s.u p).map ptD).isEmpty = s.ps.all (partB n s.u) := by rw [← none_out]; simp
  have e6 : (s.ps.map ptD).isEmpty = s.ps.isEmpty := by simp
  have l1 : (s.ps.map ptD).length ≤ 16000000 := by simp; omega
  generalize ((s.ps.filter fun p => !partB n s.u p).map ptD) = out at e1 e5
  generalize ((s.ps.map (·.1)).map lotD) = out2 at e2 e3
  unfold shB
  simp only [shD] at e1 e2 ⊢
  cases h1 : (decide (2 ≤ s.u) && decide (s.u ≤ 100)) <;> rw [h1] at e4
  · simp only [F_is_showing_of, g_is_showing_of, isi_tup, len3, at30, e4, runF, List.length_cons, List.length_nil, if_true, if_false, List.map_cons, List.map_nil, List.cons_append, List.nil_append, List.replicate, sSeq, sIf, sRet, sNil, sSet, sSetN, sPar, sAsg, sFz, fz, sFor, sExpr, sRaise, sWh, rob, cOr, cAnd, cNot, cT, cTru, cB, cIf, c1, c2, cV, cVw, cK, cAndV, cOrV, cNotV, cChain, aCons, aNil, cCall, cB1, cTup, cLst, cLc, cSeqA, cRng1, cRng2, cEnum, enumO, cZip, zipO, cCut, pSome, pNo, oCut, gT, gsCons, gsNil, gN, Rs.bind, Option.bind, Option.map, ofO, cond, truD, fgt, List.foldl, List.set, lim, List.getElem?_cons_zero, List.getElem?_cons_succ, Nat.zero_add, Nat.reduceSub, Nat.reduceAdd, Nat.reduceLeDiff, Nat.reduceEqDiff, Bool.not_true, Bool.not_false, Bool.not_not, Bool.false_and, Bool.true_and, Bool.and_true, Bool.and_false, Bool.false_or, Bool.true_or, Bool.or_true, Bool.or_false, decide_true, decide_false, oNe_int, oEq_int, oEq_str, oNe_str, dec_refl]
  cases h2 : decide (s.w = "cut" ∨ s.w = "near" ∨ s.w = "up")
  · simp only [F_is_showing_of, g_is_showing_of, isi_tup, isi_str, len3, at30, at31, at32, e4, in_words, h2, runF, List.length_cons, List.length_nil, if_true, if_false, List.map_cons, List.map_nil, List.cons_append, List.nil_append, List.replicate, sSeq, sIf, sRet, sNil, sSet, sSetN, sPar, sAsg, sFz, fz, sFor, sExpr, sRaise, sWh, rob, cOr, cAnd, cNot, cT, cTru, cB, cIf, c1, c2, cV, cVw, cK, cAndV, cOrV, cNotV, cChain, aCons, aNil, cCall, cB1, cTup, cLst, cLc, cSeqA, cRng1, cRng2, cEnum, enumO, cZip, zipO, cCut, pSome, pNo, oCut, gT, gsCons, gsNil, gN, Rs.bind, Option.bind, Option.map, ofO, cond, truD, fgt, List.foldl, List.set, lim, List.getElem?_cons_zero, List.getElem?_cons_succ, Nat.zero_add, Nat.reduceSub, Nat.reduceAdd, Nat.reduceLeDiff, Nat.reduceEqDiff, Bool.not_true, Bool.not_false, Bool.not_not, Bool.false_and, Bool.true_and, Bool.and_true, Bool.and_false, Bool.false_or, Bool.true_or, Bool.or_true, Bool.or_false, decide_true, decide_false, oNe_int, oEq_int, oEq_str, oNe_str, dec_refl]
  cases h3 : s.ps.isEmpty <;> rw [h3] at e6
  · cases h4 : s.ps.all (partB n s.u) <;> rw [h4] at e5 <;>
      simp only [F_is_showing_of, g_is_showing_of, isi_tup, isi_str, len3, at30, at31, at32, e1, e2, e3, e4, e5, e6, l1, in_words, h2, runF, List.length_cons, List.length_nil, if_true, if_false, List.map_cons, List.map_nil, List.cons_append, List.nil_append, List.replicate, sSeq, sIf, sRet, sNil, sSet, sSetN, sPar, sAsg, sFz, fz, sFor, sExpr, sRaise, sWh, rob, cOr, cAnd, cNot, cT, cTru, cB, cIf, c1, c2, cV, cVw, cK, cAndV, cOrV, cNotV, cChain, aCons, aNil, cCall, cB1, cTup, cLst, cLc, cSeqA, cRng1, cRng2, cEnum, enumO, cZip, zipO, cCut, pSome, pNo, oCut, gT, gsCons, gsNil, gN, Rs.bind, Option.bind, Option.map, ofO, cond, truD, fgt, List.foldl, List.set, lim, List.getElem?_cons_zero, List.getElem?_cons_succ, Nat.zero_add, Nat.reduceSub, Nat.reduceAdd, Nat.reduceLeDiff, Nat.reduceEqDiff, Bool.not_true, Bool.not_false, Bool.not_not, Bool.false_and, Bool.true_and, Bool.and_true, Bool.and_false, Bool.false_or, Bool.true_or, Bool.or_true, Bool.or_false, decide_true, decide_false, oNe_int, oEq_int, oEq_str, oNe_str, dec_refl, tvYes]
  · simp only [F_is_showing_of, g_is_showing_of, isi_tup, isi_str, len3, at30, at31, at32, e4, e6, in_words, h2, runF, List.length_cons, List.length_nil, if_true, if_false, List.map_cons, List.map_nil, List.cons_append, List.nil_append, List.replicate, sSeq, sIf, sRet, sNil, sSet, sSetN, sPar, sAsg, sFz, fz, sFor, sExpr, sRaise, sWh, rob, cOr, cAnd, cNot, cT, cTru, cB, cIf, c1, c2, cV, cVw, cK, cAndV, cOrV, cNotV, cChain, aCons, aNil, cCall, cB1, cTup, cLst, cLc, cSeqA, cRng1, cRng2, cEnum, enumO, cZip, zipO, cCut, pSome, pNo, oCut, gT, gsCons, gsNil, gN, Rs.bind, Option.bind, Option.map, ofO, cond, truD, fgt, List.foldl, List.set, lim, List.getElem?_cons_zero, List.getElem?_cons_succ, Nat.zero_add, Nat.reduceSub, Nat.reduceAdd, Nat.reduceLeDiff, Nat.reduceEqDiff, Bool.not_true, Bool.not_false, Bool.not_not, Bool.false_and, Bool.true_and, Bool.and_true, Bool.and_false, Bool.false_or, Bool.true_or, Bool.or_true, Bool.or_false, decide_true, decide_false, oNe_int, oEq_int, oEq_str, oNe_str, dec_refl]
/-! ### the turn -/
theorem goWh_more {t : Tv} {fg : List Nat} {body : Sv} {m : Nat} {ρ ρ2 : List Sl} (h1 : t ρ = .ok true) (h2 : body ρ = .nx ρ2) : goWh t fg body (m + 1) ρ = goWh t fg body m (fgt fg ρ2) := by
  show rob (t ρ) ρ (fun b => cond b (match body ρ with
      | .nx ρ2 => goWh t fg body m (fgt fg ρ2)
      | .ct ρ2 => goWh t fg body m (fgt fg ρ2)
      | .bk ρ2 => .nx ρ2
      | .rt d => .rt d
      | .ex n ρ2 => .ex n ρ2
      | .st => .st) (.nx ρ)) = _
  rw [h1, h2]; rfl
theorem goWh_done {t : Tv} {fg : List Nat} {body : Sv} {m : Nat} {ρ : List Sl} (h1 : t ρ = .ok false) : goWh t fg body (m + 1) ρ = .nx ρ := by
  show rob (t ρ) ρ (fun b => cond b (match body ρ with
      | .nx ρ2 => goWh t fg body m (fgt fg ρ2)
      | .ct ρ2 => goWh t fg body m (fgt fg ρ2)
      | .bk ρ2 => .nx ρ2
      | .rt d => .rt d
      | .ex n ρ2 => .ex n ρ2
      | .st => .st) (.nx ρ)) = _
  rw [h1]; rfl
theorem gcd_step (a b : Nat) : Nat.gcd b (a % b) = Nat.gcd a b := by
  rw [Nat.gcd_comm a b, Nat.gcd_rec b a, Nat.gcd_comm]
theorem common_loop : ∀ (m a b : Nat), b < m → goWh (cT (c2 oNe (cVw 1) (cK (.int 0)))) [] b_common_1 m [.va (.int a), .va (.int b)] = .nx [.va (.int (Nat.gcd a b : Nat)), .va (.int 0)]
  | 0, _, _, h => absurd h (Nat.not_lt_zero _)
  | m + 1, a, 0, _ => by
    rw [Nat.gcd_zero_right]
    exact goWh_done (by simp only [runF, List.length_cons, List.length_nil, if_true, if_false, List.map_cons, List.map_nil, List.cons_append, List.nil_append, List.replicate, sSeq, sIf, sRet, sNil, sSet, sSetN, sPar, sAsg, sFz, fz, sFor, sExpr, sRaise, sWh, rob, cOr, cAnd, cNot, cT, cTru, cB, cIf, c1, c2, cV, cVw, cK, cAndV, cOrV, cNotV, cChain, aCons, aNil, cCall, cB1, cTup, cLst, cLc, cSeqA, cRng1, cRng2, cEnum, enumO, cZip, zipO, cCut, pSome, pNo, oCut, gT, gsCons, gsNil, gN, Rs.bind, Option.bind, Option.map, ofO, cond, truD, fgt, List.foldl, List.set, lim, List.getElem?_cons_zero, List.getElem?_cons_succ, Nat.zero_add, Nat.reduceSub, Nat.reduceAdd, Nat.reduceLeDiff, Nat.reduceEqDiff, Bool.not_true, Bool.not_false, Bool.not_not, Bool.false_and, Bool.true_and, Bool.and_true, Bool.and_false, Bool.false_or, Bool.true_or, Bool.or_true, Bool.or_false, decide_true, decide_false, oNe_int, oEq_int, oEq_str, oNe_str]; simp)
  | m + 1, a, b + 1, h => by
    have ih := common_loop m (b + 1) (a % (b + 1)) (by have := Nat.mod_lt a (show 0 < b + 1 by omega); omega)
    rw [gcd_step] at ih
    rw [← ih]
    refine (goWh_more (ρ2 := [.va (.int ((b + 1 : Nat) : Int)), .va (.int ((a % (b + 1) : Nat) : Int))]) ?_ ?_).trans rfl
    · have : ((b + 1 : Nat) : Int) ≠ 0 := by omega
      simp only [runF, List.length_cons, List.length_nil, if_true, if_false, List.map_cons, List.map_nil, List.cons_append, List.nil_append, List.replicate, sSeq, sIf, sRet, sNil, sSet, sSetN, sPar, sAsg, sFz, fz, sFor, sExpr, sRaise, sWh, rob, cOr, cAnd, cNot, cT, cTru, cB, cIf, c1, c2, cV, cVw, cK, cAndV, cOrV, cNotV, cChain, aCons, aNil, cCall, cB1, cTup, cLst, cLc, cSeqA, cRng1, cRng2, cEnum, enumO, cZip, zipO, cCut, pSome, pNo, oCut, gT, gsCons, gsNil, gN, Rs.bind, Option.bind, Option.map, ofO, cond, truD, fgt, List.foldl, List.set, lim, List.getElem?_cons_zero, List.getElem?_cons_succ, Nat.zero_add, Nat.reduceSub, Nat.reduceAdd, Nat.reduceLeDiff, Nat.reduceEqDiff, Bool.not_true, Bool.not_false, Bool.not_not, Bool.false_and, Bool.true_and, Bool.and_true, Bool.and_false, Bool.false_or, Bool.true_or, Bool.or_true, Bool.or_false, decide_true, decide_false, oNe_int, oEq_int, oEq_str, oNe_str, this]
    · have : (0 : Int) < ((b + 1 : Nat) : Int) := by omega
      simp only [b_common_1, oMod, this, runF, List.length_cons, List.length_nil, if_true, if_false, List.map_cons, List.map_nil, List.cons_append, List.nil_append, List.replicate, sSeq, sIf, sRet, sNil, sSet, sSetN, sPar, sAsg, sFz, fz, sFor, sExpr, sRaise, sWh, rob, cOr, cAnd, cNot, cT, cTru, cB, cIf, c1, c2, cV, cVw, cK, cAndV, cOrV, cNotV, cChain, aCons, aNil, cCall, cB1, cTup, cLst, cLc, cSeqA, cRng1, cRng2, cEnum, enumO, cZip, zipO, cCut, pSome, pNo, oCut, gT, gsCons, gsNil, gN, Rs.bind, Option.bind, Option.map, ofO, cond, truD, fgt, List.foldl, List.set, lim, List.getElem?_cons_zero, List.getElem?_cons_succ, Nat.zero_add, Nat.reduceSub, Nat.reduceAdd, Nat.reduceLeDiff, Nat.reduceEqDiff, Bool.not_true, Bool.not_false, Bool.not_not, Bool.false_and, Bool.true_and, Bool.and_true, Bool.and_false, Bool.false_or, Bool.true_or, Bool.or_true, Bool.or_false, decide_true, decide_false, oNe_int, oEq_int, oEq_str, oNe_str, Int.natCast_emod]
theorem E_gcd (a b : Nat) (h : b < 1000) : F_common [.int a, .int b] = .ok (.int (Nat.gcd a b : Nat)) := by
  have e := common_loop 1000 a b h
  simp only [F_common, g_common, runF, List.length_cons, List.length_nil, if_true, if_false, List.map_cons, List.map_nil, List.cons_append, List.nil_append, List.replicate, sSeq, sIf, sRet, sNil, sSet, sSetN, sPar, sAsg, sFz, fz, sFor, sExpr, sRaise, sWh, rob, cOr, cAnd, cNot, cT, cTru, cB, cIf, c1, c2, cV, cVw, cK, cAndV, cOrV, cNotV, cChain, aCons, aNil, cCall, cB1, cTup, cLst, cLc, cSeqA, cRng1, cRng2, cEnum, enumO, cZip, zipO, cCut, pSome, pNo, oCut, gT, gsCons, gsNil, gN, Rs.bind, Option.bind, Option.map, ofO, cond, truD, fgt, List.foldl, List.set, lim, List.getElem?_cons_zero, List.getElem?_cons_succ, Nat.zero_add, Nat.reduceSub, Nat.reduceAdd, Nat.reduceLeDiff, Nat.reduceEqDiff, Bool.not_true, Bool.not_false, Bool.not_not, Bool.false_and, Bool.true_and, Bool.and_true, Bool.and_false, Bool.false_or, Bool.true_or, Bool.or_true, Bool.or_false, decide_true, decide_false, oNe_int, oEq_int, oEq_str, oNe_str, e]
/-- what a showing's turn is by itself -/
def oneN (s : Sh) : Nat := if s.w = "near" then 2 * s.u.toNat else s.u.toNat
def turnN (ss : List Sh) : Nat := ss.foldl (fun f s => Nat.lcm f (oneN s)) 1
theorem lcm_by (f o : Nat) : f / Nat.gcd f o * o = Nat.lcm f o := by
  obtain ⟨k, hk⟩ := Nat.gcd_dvd_left f o
  show _ = f * o / Nat.gcd f o
  rcases Nat.eq_zero_or_pos (Nat.gcd f o) with z | z
  · rw [z]; simp
  · have e1 : f / Nat.gcd f o = k := Nat.div_eq_of_eq_mul_right z hk
    have e2 : f * o / Nat.gcd f o = k * o := Nat.div_eq_of_eq_mul_right z (by rw [← Nat.mul_assoc, ← hk])
    rw [e1, e2]
theorem oDiv_ok {i j : Int} (h1 : 0 < j) (h2 : j < 1073741824) : oDiv (.int i) (.int j) = some (.int (i / j)) := by simp [h1, h2]
theorem oMul_ok {i j : Int} (h : (small i || small j) = true) : oMul (.int i) (.int j) = some (.int (i * j)) := by simp only [oMul]; rw [if_pos h]
theorem c2_ok {o : Dt → Dt → Option Dt} {f g : Ev} {ρ : List Sl} {x y z : Dt} (h1 : f ρ = .ok x) (h2 : g ρ = .ok y) (h3 : o x y = some z) : c2 o f g ρ = .ok z := by simp only [c2, h1, h2, h3, Rs.bind, ofO]
theorem set_nx {i : Nat} {f : Ev} {ρ : List Sl} {d : Dt} (h : f ρ = .ok d) : sSet i f ρ = .nx (ρ.set i (.va d)) := by simp only [sSet, h, rob]
theorem seq_nx {g h : Sv} {ρ ρ' : List Sl} (e : g ρ = .nx ρ') : sSeq g h ρ = h ρ' := by simp only [sSeq, e]
theorem turn_step (v : Dt) (f : Nat) (s : Sh) (hf : 1 ≤ f) (h1 : 1 ≤ s.u) (h2 : s.u ≤ 100) :
    b_turn_of_1 [.va v, .va (.int f), .va (.int s.u), .va (.str s.w), .va (.tup (s.ps.map ptD)), .no] = .nx [.va v, .va (.int (Nat.lcm f (oneN s) : Nat)), .va (.int s.u), .va (.str s.w), .va (.tup (s.ps.map ptD)), .va (.int (oneN s : Nat))] := by
  have o1 : 1 ≤ oneN s := by unfold oneN; split <;> omega
  have o2 : oneN s ≤ 200 := by unfold oneN; split <;> omega
  have g1 : 1 ≤ Nat.gcd f (oneN s) := Nat.gcd_pos_of_pos_left _ hf
  have g2 : Nat.gcd f (oneN s) ≤ oneN s := Nat.gcd_le_right _ o1
  have eo : (if decide (s.w = "near") = true then 2 * s.u else s.u) = ((oneN s : Nat) : Int) := by
    unfold oneN
    by_cases q : s.w = "near" <;> simp [q] <;> omega
  have ec := E_gcd f (oneN s) (by omega)
  have el : ((f : Int) / ((Nat.gcd f (oneN s) : Nat) : Int)) * ((oneN s : Nat) : Int) = ((Nat.lcm f (oneN s) : Nat) : Int) := by
    rw [← lcm_by f (oneN s), Int.natCast_mul, Int.natCast_ediv]
  have s2 : small s.u = true := small_of (by omega) (by omega)
  generalize oneN s = o at *
  generalize Nat.gcd f o = g at *
  generalize Nat.lcm f o = l at *
  have d1 : (0 : Int) < (g : Int) := by omega
  have d2 : (g : Int) < 1073741824 := by omega
  have s1 : small (o : Int) = true := small_of (by omega) (by omega)
  have k1 := oDiv_ok (i := (f : Int)) d1 d2
  have k2 : oMul (.int ((f : Int) / (g : Int))) (.int (o : Int)) = some (.int ((l : Nat) : Int)) := by rw [oMul_ok (by rw [s1, Bool.or_true]), el]
  have k3 : oMul (.int 2) (.int s.u) = some (.int (2 * s.u)) := oMul_ok (by rw [s2, Bool.or_true])
  clear d1 d2 s1 s2 el
  have e1 : cIf (cT (c2 oEq (cVw 3) (cK (.str "near")))) (c2 oMul (cK (.int 2)) (cV 2)) (cV 2) [.va v, .va (.int f), .va (.int s.u), .va (.str s.w), .va (.tup (s.ps.map ptD)), .no] = .ok (.int (o : Int)) := by
    cases q : decide (s.w = "near") <;> rw [q] at eo <;> simp only [Bool.false_eq_true, if_false, if_true] at eo <;> simp only [q, eo, k3, runF, List.length_cons, List.length_nil, if_true, if_false, List.map_cons, List.map_nil, List.cons_append, List.nil_append, List.replicate, sSeq, sIf, sRet, sNil, sSet, sSetN, sPar, sAsg, sFz, fz, sFor, sExpr, sRaise, sWh, rob, cOr, cAnd, cNot, cT, cTru, cB, cIf, c1, c2, cV, cVw, cK, cAndV, cOrV, cNotV, cChain, aCons, aNil, cCall, cB1, cTup, cLst, cLc, cSeqA, cRng1, cRng2, cEnum, enumO, cZip, zipO, cCut, pSome, pNo, oCut, gT, gsCons, gsNil, gN, Rs.bind, Option.bind, Option.map, ofO, cond, truD, fgt, List.foldl, List.set, lim, List.getElem?_cons_zero, List.getElem?_cons_succ, Nat.zero_add, Nat.reduceSub, Nat.reduceAdd, Nat.reduceLeDiff, Nat.reduceEqDiff, Bool.not_true, Bool.not_false, Bool.not_not, Bool.false_and, Bool.true_and, Bool.and_true, Bool.and_false, Bool.false_or, Bool.true_or, Bool.or_true, Bool.or_false, decide_true, decide_false, oNe_int, oEq_int, oEq_str, oNe_str]
  have e2 : cCall F_common (aCons (cV 1) (aCons (cV 5) aNil)) [.va v, .va (.int f), .va (.int s.u), .va (.str s.w), .va (.tup (s.ps.map ptD)), .va (.int (o : Int))] = .ok (.int (g : Int)) := by
    simp only [ec, runF, List.length_cons, List.length_nil, if_true, if_false, List.map_cons, List.map_nil, List.cons_append, List.nil_append, List.replicate, sSeq, sIf, sRet, sNil, sSet, sSetN, sPar, sAsg, sFz, fz, sFor, sExpr, sRaise, sWh, rob, cOr, cAnd, cNot, cT, cTru, cB, cIf, c1, c2, cV, cVw, cK, cAndV, cOrV, cNotV, cChain, aCons, aNil, cCall, cB1, cTup, cLst, cLc, cSeqA, cRng1, cRng2, cEnum, enumO, cZip, zipO, cCut, pSome, pNo, oCut, gT, gsCons, gsNil, gN, Rs.bind, Option.bind, Option.map, ofO, cond, truD, fgt, List.foldl, List.set, lim, List.getElem?_cons_zero, List.getElem?_cons_succ, Nat.zero_add, Nat.reduceSub, Nat.reduceAdd, Nat.reduceLeDiff, Nat.reduceEqDiff, Bool.not_true, Bool.not_false, Bool.not_not, Bool.false_and, Bool.true_and, Bool.and_true, Bool.and_false, Bool.false_or, Bool.true_or, Bool.or_true, Bool.or_false, decide_true, decide_false, oNe_int, oEq_int, oEq_str, oNe_str]
  unfold b_turn_of_1
  rw [seq_nx (set_nx e1)]
  exact set_nx (c2_ok (c2_ok rfl e2 k1) rfl k2)
theorem turn_loop (ss : List Sh) (v : Dt) (h : ∀ s ∈ ss, 1 ≤ s.u ∧ s.u ≤ 100) :
    goFor (gT (gsCons (gN 2) (gsCons (gN 3) (gsCons (gN 4) gsNil)))) [2, 3, 4, 5] b_turn_of_1 (ss.map shD) [.va v, .va (.int (1 : Nat)), .no, .no, .no, .no] = .nx [.va v, .va (.int (turnN ss : Nat)), .no, .no, .no, .no] := by
  refine (goFor_fold shD (fun f : Nat => [.va v, .va (.int f), .no, .no, .no, .no]) (fun f s => Nat.lcm f (oneN s)) (fun f => 1 ≤ f) ss 1 (Nat.le_refl 1) ?_).1
  intro f s hs hf
  obtain ⟨h1, h2⟩ := h s hs
  exact ⟨Nat.lcm_pos hf (by unfold oneN; split <;> omega), _, _, rfl, turn_step v f s hf h1 h2, rfl⟩
theorem E_turn (ss : List Sh) (h : ∀ s ∈ ss, 1 ≤ s.u ∧ s.u ≤ 100) (d : Dt) (hd : d = .tup (ss.map shD) ∨ d = .lst (ss.map shD)) : F_turn_of [d] = .ok (.int (turnN ss : Nat)) := by
  have e := turn_loop ss d h
  generalize turnN ss = t at e ⊢
  have e1 : ((1 : Nat) : Int) = 1 := rfl
  rw [e1] at e
  rcases hd with rfl | rfl <;> simp only [F_turn_of, g_turn_of, e, runF, List.length_cons, List.length_nil, if_true, if_false, List.map_cons, List.map_nil, List.cons_append, List.nil_append, List.replicate, sSeq, sIf, sRet, sNil, sSet, sSetN, sPar, sAsg, sFz, fz, sFor, sExpr, sRaise, sWh, rob, cOr, cAnd, cNot, cT, cTru, cB, cIf, c1, c2, cV, cVw, cK, cAndV, cOrV, cNotV, cChain, aCons, aNil, cCall, cB1, cTup, cLst, cLc, cSeqA, cRng1, cRng2, cEnum, enumO, cZip, zipO, cCut, pSome, pNo, oCut, gT, gsCons, gsNil, gN, Rs.bind, Option.bind, Option.map, ofO, cond, truD, fgt, List.foldl, List.set, lim, List.getElem?_cons_zero, List.getElem?_cons_succ, Nat.zero_add, Nat.reduceSub, Nat.reduceAdd, Nat.reduceLeDiff, Nat.reduceEqDiff, Bool.not_true, Bool.not_false, Bool.not_not, Bool.false_and, Bool.true_and, Bool.and_true, Bool.and_false, Bool.false_or, Bool.true_or, Bool.or_true, Bool.or_false, decide_true, decide_false, oNe_int, oEq_int, oEq_str, oNe_str]
/-! ### all_lots -/
theorem goFor_foldN {α σ : Type} {tg : Gv} {fg : List Nat} {body : Sv} (q : α → Dt) (st : σ → List Sl) (step : σ → α → σ) (I : Nat → σ → Prop) (n : Nat) : ∀ (xs : List α) (k : Nat) (s : σ), k + xs.length ≤ n → I k s →
    (∀ k s x, x ∈ xs → k < n → I k s → I (k + 1) (step s x) ∧ ∃ ρ1 ρ2, tg (q x) (st s) = some ρ1 ∧ body ρ1 = .nx ρ2 ∧ fgt fg ρ2 = st (step s x)) →
    goFor tg fg body (xs.map q) (st s) = .nx (st (xs.foldl step s)) ∧ I (k + xs.length) (xs.foldl step s)
  | [], k, s, _, hi, _ => ⟨rfl, hi⟩
  | x :: xs, k, s, hn, hi, h => by
    have hn' : k + (xs.length + 1) ≤ n := hn
    obtain ⟨hi', ρ1, ρ2, h1, h2, h3⟩ := h k s x List.mem_cons_self (by omega) hi
    have ih := goFor_foldN q st step I n xs (k + 1) (step s x) (by omega) hi' fun k s y hy => h k s y (List.mem_cons_of_mem _ hy)
    rw [List.map_cons, goFor_step h1 h2, h3]
    have e : k + (x :: xs).length = k + 1 + xs.length := by show k + (xs.length + 1) = _; omega
    rw [e]
    exact ih
/-- a dict whose keys are lots, all True -/
def dk (ks : List (List Int)) : DD := ks.map fun k => (k.map Sum.inl, Dt.bl true)
def addL (ks : List (List Int)) (k : List Int) : List (List Int) := if k ∈ ks then ks else ks ++ [k]
theorem inl_eq (a b : List Int) : (a.map (Sum.inl : Int → Key) = b.map Sum.inl) ↔ a = b := List.map_inj_right fun x y h => Sum.inl.inj h
theorem dk_any (ks : List (List Int)) (k : List Int) : ((dk ks).any fun kv => decide (kv.1 = k.map Sum.inl)) = decide (k ∈ ks) := by
  unfold dk
  induction ks with
  | nil => rfl
  | cons j ks ih =>
    rw [List.map_cons, List.any_cons, ih]
    by_cases h : j = k
    · subst h; simp
    · have h' : ¬ k = j := fun e => h e.symm
      simp [inl_eq, h, h']
theorem put_dk (ks : List (List Int)) (k : List Int) : putD (dk ks) (k.map Sum.inl) (.bl true) = dk (addL ks k) := by
  unfold putD addL
  rw [dk_any]
  by_cases h : k ∈ ks
  · simp only [h, decide_true, if_true]
    unfold dk
    rw [List.map_map]
    refine List.map_congr_left fun j _ => ?_
    simp only [Function.comp_apply]
    split
    · rename_i e; rfl
    · rfl
  · simp only [h, decide_false, Bool.false_eq_true, if_false]
    unfold dk
    rw [List.map_append]
    rfl
theorem addL_len (ks : List (List Int)) (k : List Int) : (addL ks k).length ≤ ks.length + 1 := by
  unfold addL; split <;> simp
theorem keys_dk : ∀ ks : List (List Int), keysI (dk ks) = some ks
  | [] => rfl
  | k :: ks => by
    have h : intsK (k.map Sum.inl) = some k := by
      induction k with
      | nil => rfl
      | cons i k ih => simp [intsK, ih]
    have ih := keys_dk ks
    unfold dk at ih ⊢
    rw [List.map_cons]
    simp only [keysI, h, ih]
theorem key_lot (l : List Int) : keyD (lotD l) = some (l.map Sum.inl) := by simp [lotD, keyD]
theorem put_nx {i : Nat} {fk fv : Ev} {ρ : List Sl} {ks : List (List Int)} {l : List Int} (h0 : ρ[i]? = some (.ow (.dct (dk ks)))) (h1 : fv ρ = .ok (.bl true)) (h2 : fk ρ = .ok (lotD l)) (h3 : ks.length < 16000000) : sPut i fk fv ρ = .nx (ρ.set i (.ow (.dct (dk (addL ks l))))) := by
  have h4 : (dk ks).length < 16000000 := by unfold dk; simpa using h3
  simp only [sPut, h0, h1, h2, rob, key_lot, lim, h4, if_true, put_dk]
def keysOf (ks : List (List Int)) (s : Sh) : List (List Int) := s.ps.foldl (fun ks p => addL ks p.1) ks
def rng (n : Nat) : List Int := (List.range n).map fun i : Nat => (i : Int)
def ks0 (p : Pl) : List (List Int) := (rng p.n.toNat).foldl (fun ks i => addL ks [i]) (if p.one then [rng p.n.toNat] else [])
def keysP (p : Pl) : List (List Int) := p.ss.foldl keysOf (ks0 p)
theorem things_loop (v : Dt) (xs : List Int) (ks : List (List Int)) (h : xs.length ≤ 1000) (hk : ks.length ≤ 1) :
    goFor (gN 2) [2] b_all_lots_1 (xs.map Dt.int) [.va v, .ow (.dct (dk ks)), .no, .no, .no, .no, .no, .no] = .nx [.va v, .ow (.dct (dk (xs.foldl (fun ks i => addL ks [i]) ks))), .no, .no, .no, .no, .no, .no] ∧ (xs.foldl (fun ks i => addL ks [i]) ks).length ≤ 1 + (0 + xs.length) := by
  refine goFor_foldN Dt.int (fun ks => [.va v, .ow (.dct (dk ks)), .no, .no, .no, .no, .no, .no]) (fun ks i => addL ks [i]) (fun k ks => ks.length ≤ 1 + k) xs.length xs 0 ks (by omega) hk ?_
  intro k ks i _ hk hi
  have l1 := addL_len ks [i]
  refine ⟨by omega, [.va v, .ow (.dct (dk ks)), .va (.int i), .no, .no, .no, .no, .no], [.va v, .ow (.dct (dk (addL ks [i]))), .va (.int i), .no, .no, .no, .no, .no], rfl, ?_, rfl⟩
  exact put_nx (ks := ks) (l := [i]) rfl rfl rfl (by omega)
theorem parts_loop (v u w x : Dt) (ps : List (List Int × Int)) (ks : List (List Int)) (m : Nat) (h : ps.length ≤ 1000) (hk : ks.length ≤ m) (hm : m ≤ 10000000) :
    goFor (gT (gsCons (gN 6) (gsCons (gN 7) gsNil))) [6, 7] b_all_lots_2 (ps.map ptD) [.va v, .ow (.dct (dk ks)), .no, .va u, .va w, .va x, .no, .no] = .nx [.va v, .ow (.dct (dk (ps.foldl (fun ks p => addL ks p.1) ks))), .no, .va u, .va w, .va x, .no, .no] ∧ (ps.foldl (fun ks p => addL ks p.1) ks).length ≤ m + (0 + ps.length) := by
  refine goFor_foldN ptD (fun ks => [.va v, .ow (.dct (dk ks)), .no, .va u, .va w, .va x, .no, .no]) (fun ks (p : List Int × Int) => addL ks p.1) (fun k ks => ks.length ≤ m + k) ps.length ps 0 ks (by omega) hk ?_
  intro k ks p _ hk hi
  have l1 := addL_len ks p.1
  refine ⟨by omega, [.va v, .ow (.dct (dk ks)), .no, .va u, .va w, .va x, .va (lotD p.1), .va (.int p.2)], [.va v, .ow (.dct (dk (addL ks p.1))), .no, .va u, .va w, .va x, .va (lotD p.1), .va (.int p.2)], rfl, ?_, rfl⟩
  exact put_nx (ks := ks) (l := p.1) rfl rfl rfl (by omega)
theorem shows_loop (v : Dt) (ss : List Sh) (ks : List (List Int)) (h : ss.length ≤ 1000) (hp : ∀ s ∈ ss, s.ps.length ≤ 1000) (hk : ks.length ≤ 1001) :
    goFor (gT (gsCons (gN 3) (gsCons (gN 4) (gsCons (gN 5) gsNil)))) [3, 4, 5, 6, 7] b_all_lots_3 (ss.map shD) [.va v, .ow (.dct (dk ks)), .no, .no, .no, .no, .no, .no] = .nx [.va v, .ow (.dct (dk (ss.foldl keysOf ks))), .no, .no, .no, .no, .no, .no] ∧ (ss.foldl keysOf ks).length ≤ 1001 + 1000 * (0 + ss.length) := by
  refine goFor_foldN shD (fun ks => [.va v, .ow (.dct (dk ks)), .no, .no, .no, .no, .no, .no]) keysOf (fun k ks => ks.length ≤ 1001 + 1000 * k) ss.length ss 0 ks (by omega) hk ?_
  intro k ks s hs hk hi
  have hps := hp s hs
  obtain ⟨e, l⟩ := parts_loop v (.int s.u) (.str s.w) (.tup (s.ps.map ptD)) s.ps ks (1001 + 1000 * k) hps hi (by omega)
  refine ⟨?_, [.va v, .ow (.dct (dk ks)), .no, .va (.int s.u), .va (.str s.w), .va (.tup (s.ps.map ptD)), .no, .no], [.va v, .ow (.dct (dk (keysOf ks s))), .no, .va (.int s.u), .va (.str s.w), .va (.tup (s.ps.map ptD)), .no, .no], rfl, ?_, rfl⟩
  · show (s.ps.foldl (fun ks p => addL ks p.1) ks).length ≤ _
    omega
  · exact e
theorem E_lots (p : Pl) (hn0 : 0 ≤ p.n) (hn : p.n ≤ 1000) (hs : p.ss.length ≤ 1000) (hp : ∀ s ∈ p.ss, s.ps.length ≤ 1000) : F_all_lots [plD p] = .ok (.lst ((sortLots (keysP p)).map lotD)) := by
  have rl : (rng p.n.toNat).length = p.n.toNat := by unfold rng; simp
  obtain ⟨e1, l1⟩ := things_loop (plD p) (rng p.n.toNat) (if p.one then [rng p.n.toNat] else []) (by omega) (by split <;> simp)
  obtain ⟨e2, l2⟩ := shows_loop (plD p) p.ss (ks0 p) hs hp (by unfold ks0; omega)
  have r1 : inR p.n = true := by unfold inR; rw [Bool.and_eq_true]; exact ⟨decide_eq_true (by omega), decide_eq_true (by omega)⟩
  have r2 : rngD 0 p.n.toNat = (rng p.n.toNat).map Dt.int := rngD_map _
  have r3 : oRng (.int p.n) = some ((rng p.n.toNat).map Dt.int) := by
    rw [← r2]
    exact if_pos (by rw [Bool.and_eq_true]; exact ⟨decide_eq_true (by omega), decide_eq_true (by omega)⟩)
  have r4 : oDis (lotD (rng p.n.toNat)) (.bl true) = some (.dct (dk [rng p.n.toNat])) := by
    show (keyD (lotD (rng p.n.toNat))).map (fun kk => Dt.dct [(kk, Dt.bl true)]) = _
    rw [key_lot]; rfl
  have r5 : oSortL (.dct (dk (p.ss.foldl keysOf (ks0 p)))) = some (.lst ((sortLots (keysP p)).map lotD)) := by
    show (keysI (dk (keysP p))).map (fun ks => Dt.lst ((sortLots ks).map lotD)) = _
    rw [keys_dk]; rfl
  have a0 : oAt (plD p) (.int 0) = some (.int p.n) := rfl
  have a1 : oAt (plD p) (.int 1) = some (.str (kindS p.one)) := rfl
  have a2 : oAt (plD p) (.int 2) = some (.tup (p.ss.map shD)) := rfl
  have a3 : decide (kindS p.one = "one") = p.one := by cases p.one <;> decide +kernel
  have r6 : Dt.tup ((rng p.n.toNat).map Dt.int) = lotD (rng p.n.toNat) := rfl
  have r7 : dk [] = [] := rfl
  unfold ks0 at e2 r5
  generalize plD p = v at *
  generalize (rng p.n.toNat).foldl (fun ks i => addL ks [i]) (if p.one then [rng p.n.toNat] else []) = k1 at *
  generalize p.ss.foldl keysOf k1 = k2 at *
  cases h : p.one <;> rw [h] at e1 a1 a3 <;> simp only [Bool.false_eq_true, if_false, if_true, r7] at e1 <;>
    simp only [F_all_lots, g_all_lots, r2, a0, a1, a2, a3, r1, r3, r4, r5, r6, cTupRg, e1, e2, runF, List.length_cons, List.length_nil, if_true, if_false, List.map_cons, List.map_nil, List.cons_append, List.nil_append, List.replicate, sSeq, sIf, sRet, sNil, sSet, sSetN, sPar, sAsg, sFz, fz, sFor, sExpr, sRaise, sWh, rob, cOr, cAnd, cNot, cT, cTru, cB, cIf, c1, c2, cV, cVw, cK, cAndV, cOrV, cNotV, cChain, aCons, aNil, cCall, cB1, cTup, cLst, cLc, cSeqA, cRng1, cRng2, cEnum, enumO, cZip, zipO, cCut, pSome, pNo, oCut, gT, gsCons, gsNil, gN, Rs.bind, Option.bind, Option.map, ofO, cond, truD, fgt, List.foldl, List.set, lim, List.getElem?_cons_zero, List.getElem?_cons_succ, Nat.zero_add, Nat.reduceSub, Nat.reduceAdd, Nat.reduceLeDiff, Nat.reduceEqDiff, Bool.not_true, Bool.not_false, Bool.not_not, Bool.false_and, Bool.true_and, Bool.and_true, Bool.and_false, Bool.false_or, Bool.true_or, Bool.or_true, Bool.or_false, decide_true, decide_false, oNe_int, oEq_int, oEq_str, oNe_str]
/-! ### do_nest -/
/-- two lots, the first no longer: nothing in common, or the first all within the second -/
def nestB (a b : List Int) : Bool := (a.filter fun i => decide (i ∈ b)).isEmpty || decide ((a.filter fun i => decide (i ∈ b)).length = a.length)
theorem both_loop (v x y z u : Dt) (a b : List Int) : goLc (gN 5) (cT (c2 oInA (cVw 5) (cVw 3))) (cV 5) (a.map Dt.int) [.va v, .va x, .va y, .va (lotD b), .no, .no] = .ok ((a.filter fun i => decide (i ∈ b)).map Dt.int) := by
  refine goLc_map Dt.int Dt.int (fun i => decide (i ∈ b)) a ?_
  intro i _
  refine ⟨[.va v, .va x, .va y, .va (lotD b), .no, .va (.int i)], rfl, ?_, fun _ => rfl⟩
  simp only [oInA_int, runF, List.length_cons, List.length_nil, if_true, if_false, List.map_cons, List.map_nil, List.cons_append, List.nil_append, List.replicate, sSeq, sIf, sRet, sNil, sSet, sSetN, sPar, sAsg, sFz, fz, sFor, sExpr, sRaise, sWh, rob, cOr, cAnd, cNot, cT, cTru, cB, cIf, c1, c2, cV, cVw, cK, cAndV, cOrV, cNotV, cChain, aCons, aNil, cCall, cB1, cTup, cLst, cLc, cSeqA, cRng1, cRng2, cEnum, enumO, cZip, zipO, cCut, pSome, pNo, oCut, gT, gsCons, gsNil, gN, Rs.bind, Option.bind, Option.map, ofO, cond, truD, fgt, List.foldl, List.set, lim, List.getElem?_cons_zero, List.getElem?_cons_succ, Nat.zero_add, Nat.reduceSub, Nat.reduceAdd, Nat.reduceLeDiff, Nat.reduceEqDiff, Bool.not_true, Bool.not_false, Bool.not_not, Bool.false_and, Bool.true_and, Bool.and_true, Bool.and_false, Bool.false_or, Bool.true_or, Bool.or_true, Bool.or_false, decide_true, decide_false, oNe_int, oEq_int, oEq_str, oNe_str]
theorem len_lotM (l : List Int) : oLen [.lst (l.map Dt.int)] = some (.int l.length) := by simp
theorem len_lot (l : List Int) : oLen [lotD l] = some (.int l.length) := by simp [lotD]
theorem nest_step (v x : Dt) (a b : List Int) (ha : a.length ≤ 1000000) (h : nestB a b = true) :
    b_do_nest_1 [.va v, .va x, .va (lotD a), .va (lotD b), .no, .no] = .nx [.va v, .va x, .va (lotD a), .va (lotD b), .ow (.lst ((a.filter fun i => decide (i ∈ b)).map Dt.int)), .no] := by
  have e := both_loop v x (lotD a) x x a b
  have l1 : (a.map Dt.int).length ≤ 16000000 := by simp; omega
  have e1 : ((a.filter fun i => decide (i ∈ b)).map Dt.int).isEmpty = (a.filter fun i => decide (i ∈ b)).isEmpty := by simp
  have n1 := len_lotM (a.filter fun i => decide (i ∈ b))
  have n2 := len_lot a
  unfold nestB at h
  generalize (a.filter fun i => decide (i ∈ b)) = c at *
  have n3 : oNe (.int (c.length : Int)) (.int (a.length : Int)) = some (.bl (!decide (c.length = a.length))) := by
    rw [oNe_int]
    have : decide ((c.length : Int) = (a.length : Int)) = decide (c.length = a.length) := by
      rw [decide_eq_decide]; omega
    rw [this]
  generalize (c.length : Int) = m at *
  generalize (a.length : Int) = k at *
  simp only [lotD] at e n2 ⊢
  cases q : c.isEmpty <;> rw [q] at h e1
  · simp only [Bool.false_or] at h
    rw [h] at n3
    simp only [b_do_nest_1, e, l1, e1, n1, n2, n3, runF, List.length_cons, List.length_nil, if_true, if_false, List.map_cons, List.map_nil, List.cons_append, List.nil_append, List.replicate, sSeq, sIf, sRet, sNil, sSet, sSetN, sPar, sAsg, sFz, fz, sFor, sExpr, sRaise, sWh, rob, cOr, cAnd, cNot, cT, cTru, cB, cIf, c1, c2, cV, cVw, cK, cAndV, cOrV, cNotV, cChain, aCons, aNil, cCall, cB1, cTup, cLst, cLc, cSeqA, cRng1, cRng2, cEnum, enumO, cZip, zipO, cCut, pSome, pNo, oCut, gT, gsCons, gsNil, gN, Rs.bind, Option.bind, Option.map, ofO, cond, truD, fgt, List.foldl, List.set, lim, List.getElem?_cons_zero, List.getElem?_cons_succ, Nat.zero_add, Nat.reduceSub, Nat.reduceAdd, Nat.reduceLeDiff, Nat.reduceEqDiff, Bool.not_true, Bool.not_false, Bool.not_not, Bool.false_and, Bool.true_and, Bool.and_true, Bool.and_false, Bool.false_or, Bool.true_or, Bool.or_true, Bool.or_false, decide_true, decide_false, oNe_int, oEq_int, oEq_str, oNe_str]
  · simp only [b_do_nest_1, e, l1, e1, n1, n2, runF, List.length_cons, List.length_nil, if_true, if_false, List.map_cons, List.map_nil, List.cons_append, List.nil_append, List.replicate, sSeq, sIf, sRet, sNil, sSet, sSetN, sPar, sAsg, sFz, fz, sFor, sExpr, sRaise, sWh, rob, cOr, cAnd, cNot, cT, cTru, cB, cIf, c1, c2, cV, cVw, cK, cAndV, cOrV, cNotV, cChain, aCons, aNil, cCall, cB1, cTup, cLst, cLc, cSeqA, cRng1, cRng2, cEnum, enumO, cZip, zipO, cCut, pSome, pNo, oCut, gT, gsCons, gsNil, gN, Rs.bind, Option.bind, Option.map, ofO, cond, truD, fgt, List.foldl, List.set, lim, List.getElem?_cons_zero, List.getElem?_cons_succ, Nat.zero_add, Nat.reduceSub, Nat.reduceAdd, Nat.reduceLeDiff, Nat.reduceEqDiff, Bool.not_true, Bool.not_false, Bool.not_not, Bool.false_and, Bool.true_and, Bool.and_true, Bool.and_false, Bool.false_or, Bool.true_or, Bool.or_true, Bool.or_false, decide_true, decide_false, oNe_int, oEq_int, oEq_str, oNe_str]
theorem cut_k (ds : List Dt) (k : Nat) : cutD ds (some ((k : Int) + 1)) none = ds.drop (k + 1) := by
  have e : (k : Int) + 1 = ((k + 1 : Nat) : Int) := rfl
  rw [e]
  show (ds.drop (HT.sIx ds.length 0 (some ((k + 1 : Nat) : Int)))).take (HT.sIx ds.length ds.length none - HT.sIx ds.length 0 (some ((k + 1 : Nat) : Int))) = _
  rw [HT.sIx_nat, HT.sIx_none]
  rcases Nat.le_total (k + 1) ds.length with h | h
  · rw [Nat.min_eq_left h]
    exact List.take_of_length_le (by rw [List.length_drop]; exact Nat.le_refl _)
  · rw [Nat.min_eq_right h, List.drop_eq_nil_of_le h, List.drop_eq_nil_of_le (Nat.le_refl _)]
    simp
theorem inner_loop (v x : Dt) (a : List Int) (bs : List (List Int)) (ha : a.length ≤ 1000000) (h : ∀ b ∈ bs, nestB a b = true) :
    goFor (gN 3) [3, 4] b_do_nest_1 (bs.map lotD) [.va v, .va x, .va (lotD a), .no, .no, .no] = .nx [.va v, .va x, .va (lotD a), .no, .no, .no] := by
  refine (goFor_fold lotD (fun _ : Unit => [.va v, .va x, .va (lotD a), .no, .no, .no]) (fun u _ => u) (fun _ => True) bs () trivial ?_).1
  intro u b hb _
  exact ⟨trivial, [.va v, .va x, .va (lotD a), .va (lotD b), .no, .no], _, rfl, nest_step v x a b ha (h b hb), rfl⟩
theorem outer_loop (ls : List (List Int)) (hl : ∀ l ∈ ls, l.length ≤ 1000000) : ∀ (suf : List (List Int)) (k : Nat), ls.drop k = suf → suf.Pairwise (fun a b => nestB a b = true) →
    goFor (gT (gsCons (gN 1) (gsCons (gN 2) gsNil))) [1, 2, 3, 4] b_do_nest_2 (enumD k (suf.map lotD)) [.va (.lst (ls.map lotD)), .no, .no, .no, .no, .no] = .nx [.va (.lst (ls.map lotD)), .no, .no, .no, .no, .no]
  | [], _, _, _ => rfl
  | a :: suf, k, hk, hp => by
    have hs : ls.drop (k + 1) = suf := by rw [← List.drop_drop, hk]; rfl
    have ih := outer_loop ls hl suf (k + 1) hs hp.of_cons
    have hm : a ∈ ls := List.mem_of_mem_drop (by rw [hk]; exact List.mem_cons_self)
    have e := inner_loop (.lst (ls.map lotD)) (.int (k : Nat)) a suf (hl a hm) (fun b hb => List.rel_of_pairwise_cons hp hb)
    have c : cutD (ls.map lotD) (some ((k : Int) + 1)) none = suf.map lotD := by rw [cut_k, ← List.map_drop, hs]
    have en : enumD k ((a :: suf).map lotD) = Dt.tup [.int (k : Nat), lotD a] :: enumD (k + 1) (suf.map lotD) := rfl
    rw [en, ← ih]
    refine goFor_step (ρ1 := [.va (.lst (ls.map lotD)), .va (.int (k : Nat)), .va (lotD a), .no, .no, .no]) (ρ2 := [.va (.lst (ls.map lotD)), .va (.int (k : Nat)), .va (lotD a), .no, .no, .no]) rfl ?_
    have o : oAdd (.int (k : Nat)) (.int 1) = some (.int ((k : Int) + 1)) := rfl
    simp only [b_do_nest_2, o, c, e, runF, List.length_cons, List.length_nil, if_true, if_false, List.map_cons, List.map_nil, List.cons_append, List.nil_append, List.replicate, sSeq, sIf, sRet, sNil, sSet, sSetN, sPar, sAsg, sFz, fz, sFor, sExpr, sRaise, sWh, rob, cOr, cAnd, cNot, cT, cTru, cB, cIf, c1, c2, cV, cVw, cK, cAndV, cOrV, cNotV, cChain, aCons, aNil, cCall, cB1, cTup, cLst, cLc, cSeqA, cRng1, cRng2, cEnum, enumO, cZip, zipO, cCut, pSome, pNo, oCut, gT, gsCons, gsNil, gN, Rs.bind, Option.bind, Option.map, ofO, cond, truD, fgt, List.foldl, List.set, lim, List.getElem?_cons_zero, List.getElem?_cons_succ, Nat.zero_add, Nat.reduceSub, Nat.reduceAdd, Nat.reduceLeDiff, Nat.reduceEqDiff, Bool.not_true, Bool.not_false, Bool.not_not, Bool.false_and, Bool.true_and, Bool.and_true, Bool.and_false, Bool.false_or, Bool.true_or, Bool.or_true, Bool.or_false, decide_true, decide_false, oNe_int, oEq_int, oEq_str, oNe_str]
theorem E_nest_ok (ls : List (List Int)) (hl : ∀ l ∈ ls, l.length ≤ 1000000) (hp : ls.Pairwise (fun a b => nestB a b = true)) (hn : ls.length ≤ 1000000) : F_do_nest [.lst (ls.map lotD)] = .ok (.bl true) := by
  have e := outer_loop ls hl ls 0 rfl hp
  simp only [F_do_nest, g_do_nest, e, runF, List.length_cons, List.length_nil, if_true, if_false, List.map_cons, List.map_nil, List.cons_append, List.nil_append, List.replicate, sSeq, sIf, sRet, sNil, sSet, sSetN, sPar, sAsg, sFz, fz, sFor, sExpr, sRaise, sWh, rob, cOr, cAnd, cNot, cT, cTru, cB, cIf, c1, c2, cV, cVw, cK, cAndV, cOrV, cNotV, cChain, aCons, aNil, cCall, cB1, cTup, cLst, cLc, cSeqA, cRng1, cRng2, cEnum, enumO, cZip, zipO, cCut, pSome, pNo, oCut, gT, gsCons, gsNil, gN, Rs.bind, Option.bind, Option.map, ofO, cond, truD, fgt, List.foldl, List.set, lim, List.getElem?_cons_zero, List.getElem?_cons_succ, Nat.zero_add, Nat.reduceSub, Nat.reduceAdd, Nat.reduceLeDiff, Nat.reduceEqDiff, Bool.not_true, Bool.not_false, Bool.not_not, Bool.false_and, Bool.true_and, Bool.and_true, Bool.and_false, Bool.false_or, Bool.true_or, Bool.or_true, Bool.or_false, decide_true, decide_false, oNe_int, oEq_int, oEq_str, oNe_str]
/-! ### is_poll -/
structure Good (p : Pl) : Prop where
  n1 : 1 ≤ p.n
  n6 : p.n ≤ 6
  s1 : 1 ≤ p.ss.length
  s3 : p.ss.length ≤ 3
  sh : ∀ s ∈ p.ss, shB p.n s = true ∧ s.ps.length ≤ 1000 ∧ (∀ q ∈ s.ps, q.1.length ≤ 1000) ∧ 1 ≤ s.u ∧ s.u ≤ 100
  turn : turnN p.ss ≤ 1000
  nest : p.one = true → (sortLots (keysP p)).Pairwise (fun a b => nestB a b = true) ∧ (∀ l ∈ sortLots (keysP p), l.length ≤ 1000000) ∧ (sortLots (keysP p)).length ≤ 1000000
  each : p.one = false → ∀ s ∈ p.ss, ∀ q ∈ s.ps, q.1.length ≤ 1
theorem show_loop (p : Pl) (g : Good p) (v : Dt) (hv : v = plD p) : goLc (gN 1) (cNot (cTru (cCall F_is_showing_of (aCons (c2 oAt (cVw 0) (cK (.int 0))) (aCons (cV 1) aNil))))) (cV 1) (p.ss.map shD) [.va v, .no, .no, .no, .no] = .ok [] := by
  subst hv
  refine goLc_none shD p.ss ?_
  intro s hs
  obtain ⟨h1, h2, h3, _⟩ := g.sh s hs
  have e := E_show p.n s (fun q hq => Nat.le_trans (h3 q hq) (by decide)) (Nat.le_trans h2 (by decide))
  rw [h1] at e
  have a0 : oAt (plD p) (.int 0) = some (.int p.n) := rfl
  refine ⟨[.va (plD p), .va (shD s), .no, .no, .no], rfl, ?_⟩
  generalize plD p = v at *
  simp only [a0, e, runF, List.length_cons, List.length_nil, if_true, if_false, List.map_cons, List.map_nil, List.cons_append, List.nil_append, List.replicate, sSeq, sIf, sRet, sNil, sSet, sSetN, sPar, sAsg, sFz, fz, sFor, sExpr, sRaise, sWh, rob, cOr, cAnd, cNot, cT, cTru, cB, cIf, c1, c2, cV, cVw, cK, cAndV, cOrV, cNotV, cChain, aCons, aNil, cCall, cB1, cTup, cLst, cLc, cSeqA, cRng1, cRng2, cEnum, enumO, cZip, zipO, cCut, pSome, pNo, oCut, gT, gsCons, gsNil, gN, Rs.bind, Option.bind, Option.map, ofO, cond, truD, fgt, List.foldl, List.set, lim, List.getElem?_cons_zero, List.getElem?_cons_succ, Nat.zero_add, Nat.reduceSub, Nat.reduceAdd, Nat.reduceLeDiff, Nat.reduceEqDiff, Bool.not_true, Bool.not_false, Bool.not_not, Bool.false_and, Bool.true_and, Bool.and_true, Bool.and_false, Bool.false_or, Bool.true_or, Bool.or_true, Bool.or_false, decide_true, decide_false, oNe_int, oEq_int, oEq_str, oNe_str]
theorem in_kinds (b : Bool) : oNinA (.str (kindS b)) (.cst [.str "one", .str "some"]) = some (.bl false) := by cases b <;> rfl
theorem le_int (a b : Int) : oLe (.int a) (.int b) = some (.bl (decide (a ≤ b))) := rfl
theorem gt_int (a b : Int) : oGt (.int a) (.int b) = some (.bl (decide (b < a))) := rfl
theorem E_poll_one (p : Pl) (g : Good p) (h1 : p.one = true) : F_is_poll [plD p] = .ok (.bl true) := by
  obtain ⟨c1', c2', c3'⟩ := g.nest h1
  have e0 := show_loop p g (plD p) rfl
  have e1 := E_in p.n 1 6
  have e2 := E_turn p.ss (fun s hs => (g.sh s hs).2.2.2) (.tup (p.ss.map shD)) (.inl rfl)
  have e3 := E_lots p (by have := g.n1; omega) (by have := g.n6; omega) (by have := g.s3; omega) fun s hs => (g.sh s hs).2.1
  have e4 := E_nest_ok (sortLots (keysP p)) c2' c1' c3'
  have n1 := g.n1
  have n6 := g.n6
  rw [show (decide (1 ≤ p.n) && decide (p.n ≤ 6)) = true by simp [n1, n6]] at e1
  have s1 := g.s1
  have s3 := g.s3
  have t1 := g.turn
  have k0 : oLen [plD p] = some (.int 3) := rfl
  have k1 : oLen [.tup (p.ss.map shD)] = some (.int (p.ss.length : Nat)) := by simp
  have k2 : (p.ss.map shD).length ≤ 16000000 := by simp; omega
  have k3 : decide ((1 : Int) ≤ (p.ss.length : Nat)) = true := decide_eq_true (by omega)
  have k4 : decide (((p.ss.length : Nat) : Int) ≤ 3) = true := decide_eq_true (by omega)
  have k5 : decide ((1000 : Int) < ((turnN p.ss : Nat) : Int)) = false := decide_eq_false (by omega)
  generalize ((turnN p.ss : Nat) : Int) = t at *
  generalize ((p.ss.length : Nat) : Int) = m at *
  have a0 : oAt (plD p) (.int 0) = some (.int p.n) := rfl
  have a1 : oAt (plD p) (.int 1) = some (.str (kindS p.one)) := rfl
  have a2 : oAt (plD p) (.int 2) = some (.tup (p.ss.map shD)) := rfl
  have a3 : decide (kindS p.one = "some") = false := by rw [h1]; decide +kernel
  have a4 : oIsi "tuple" (plD p) = some (.bl true) := isi_tup _
  have i1 := in_kinds p.one
  generalize plD p = v at *
  generalize sortLots (keysP p) = sl at *
  simp only [F_is_poll, g_is_poll, a0, a1, a2, a3, a4, i1, isi_str, isi_tup, k0, k1, k2, k3, k4, k5, le_int, gt_int, e0, e1, e2, e3, e4, List.isEmpty_nil, runF, List.length_cons, List.length_nil, if_true, if_false, List.map_cons, List.map_nil, List.cons_append, List.nil_append, List.replicate, sSeq, sIf, sRet, sNil, sSet, sSetN, sPar, sAsg, sFz, fz, sFor, sExpr, sRaise, sWh, rob, cOr, cAnd, cNot, cT, cTru, cB, cIf, c1, c2, cV, cVw, cK, cAndV, cOrV, cNotV, cChain, aCons, aNil, cCall, cB1, cTup, cLst, cLc, cSeqA, cRng1, cRng2, cEnum, enumO, cZip, zipO, cCut, pSome, pNo, oCut, gT, gsCons, gsNil, gN, Rs.bind, Option.bind, Option.map, ofO, cond, truD, fgt, List.foldl, List.set, lim, List.getElem?_cons_zero, List.getElem?_cons_succ, Nat.zero_add, Nat.reduceSub, Nat.reduceAdd, Nat.reduceLeDiff, Nat.reduceEqDiff, Bool.not_true, Bool.not_false, Bool.not_not, Bool.false_and, Bool.true_and, Bool.and_true, Bool.and_false, Bool.false_or, Bool.true_or, Bool.or_true, Bool.or_false, decide_true, decide_false, oNe_int, oEq_int, oEq_str, oNe_str]
theorem goLc2_step {own1 : List Nat} {tg : Gv} {t : Tv} {src1 : Av} {tg1 : Gv} {t1 : Tv} {f : Ev} {d : Dt} {ds es r r' : List Dt} {ρ ρ1 : List Sl} (h1 : tg d ρ = some ρ1) (h2 : t ρ1 = .ok true) (h3 : src1 ρ1 = .ok es)
    (h4 : goLc tg1 t1 f es (fgt own1 ρ1) = .ok r) (h5 : goLc2 own1 tg t src1 tg1 t1 f ds ρ = .ok r') : goLc2 own1 tg t src1 tg1 t1 f (d :: ds) ρ = .ok (r ++ r') := by
  rw [goLc2_cons, h1]
  simp only [h2, h3, h4, h5, Rs.bind]
theorem some_loop (v : Dt) (ss : List Sh) (h : ∀ s ∈ ss, ∀ q ∈ s.ps, q.1.length ≤ 1) : goLc2 [3, 4] (gN 2) tvYes (cSeqA (c2 oAt (cVw 2) (cK (.int 2)))) (gT (gsCons (gN 3) (gsCons (gN 4) gsNil))) (cT (c2 oGt (cB1 oLen (aCons (cVw 3) aNil)) (cK (.int 1)))) (cK (.int 1)) (ss.map shD) [.va v, .no, .no, .no, .no] = .ok [] := by
  induction ss with
  | nil => rfl
  | cons s ss ih =>
    have ih := ih fun t ht => h t (List.mem_cons_of_mem _ ht)
    have e : goLc (gT (gsCons (gN 3) (gsCons (gN 4) gsNil))) (cT (c2 oGt (cB1 oLen (aCons (cVw 3) aNil)) (cK (.int 1)))) (cK (.int 1)) (s.ps.map ptD) [.va v, .no, .va (shD s), .no, .no] = .ok [] := by
      refine goLc_none ptD s.ps ?_
      intro q hq
      refine ⟨[.va v, .no, .va (shD s), .va (lotD q.1), .va (.int q.2)], rfl, ?_⟩
      have k : decide ((1 : Int) < (q.1.length : Nat)) = false := decide_eq_false (by have := h s List.mem_cons_self q hq; omega)
      have l := len_lot q.1
      generalize ((q.1.length : Nat) : Int) = m at *
      simp only [l, gt_int, k, runF, List.length_cons, List.length_nil, if_true, if_false, List.map_cons, List.map_nil, List.cons_append, List.nil_append, List.replicate, sSeq, sIf, sRet, sNil, sSet, sSetN, sPar, sAsg, sFz, fz, sFor, sExpr, sRaise, sWh, rob, cOr, cAnd, cNot, cT, cTru, cB, cIf, c1, c2, cV, cVw, cK, cAndV, cOrV, cNotV, cChain, aCons, aNil, cCall, cB1, cTup, cLst, cLc, cSeqA, cRng1, cRng2, cEnum, enumO, cZip, zipO, cCut, pSome, pNo, oCut, gT, gsCons, gsNil, gN, Rs.bind, Option.bind, Option.map, ofO, cond, truD, fgt, List.foldl, List.set, lim, List.getElem?_cons_zero, List.getElem?_cons_succ, Nat.zero_add, Nat.reduceSub, Nat.reduceAdd, Nat.reduceLeDiff, Nat.reduceEqDiff, Bool.not_true, Bool.not_false, Bool.not_not, Bool.false_and, Bool.true_and, Bool.and_true, Bool.and_false, Bool.false_or, Bool.true_or, Bool.or_true, Bool.or_false, decide_true, decide_false, oNe_int, oEq_int, oEq_str, oNe_str]
    have a : cSeqA (c2 oAt (cVw 2) (cK (.int 2))) [.va v, .no, .va (shD s), .no, .no] = .ok (s.ps.map ptD) := rfl
    exact goLc2_step (ρ1 := [.va v, .no, .va (shD s), .no, .no]) rfl rfl a e ih
theorem E_poll_some (p : Pl) (g : Good p) (h1 : p.one = false) : F_is_poll [plD p] = .ok (.bl true) := by
  have e0 := show_loop p g (plD p) rfl
  have e1 := E_in p.n 1 6
  have e2 := E_turn p.ss (fun s hs => (g.sh s hs).2.2.2) (.tup (p.ss.map shD)) (.inl rfl)
  have e3 := some_loop (plD p) p.ss (g.each h1)
  have n1 := g.n1
  have n6 := g.n6
  rw [show (decide (1 ≤ p.n) && decide (p.n ≤ 6)) = true by simp [n1, n6]] at e1
  have s1 := g.s1
  have s3 := g.s3
  have t1 := g.turn
  have k0 : oLen [plD p] = some (.int 3) := rfl
  have k1 : oLen [.tup (p.ss.map shD)] = some (.int (p.ss.length : Nat)) := by simp
  have k2 : (p.ss.map shD).length ≤ 16000000 := by simp; omega
  have k3 : decide ((1 : Int) ≤ (p.ss.length : Nat)) = true := decide_eq_true (by omega)
  have k4 : decide (((p.ss.length : Nat) : Int) ≤ 3) = true := decide_eq_true (by omega)
  have k5 : decide ((1000 : Int) < ((turnN p.ss : Nat) : Int)) = false := decide_eq_false (by omega)
  generalize ((turnN p.ss : Nat) : Int) = t at *
  generalize ((p.ss.length : Nat) : Int) = m at *
  have a0 : oAt (plD p) (.int 0) = some (.int p.n) := rfl
  have a1 : oAt (plD p) (.int 1) = some (.str (kindS p.one)) := rfl
  have a2 : oAt (plD p) (.int 2) = some (.tup (p.ss.map shD)) := rfl
  have a3 : decide (kindS p.one = "some") = true := by rw [h1]; decide +kernel
  have a4 : oIsi "tuple" (plD p) = some (.bl true) := isi_tup _
  have i1 := in_kinds p.one
  generalize plD p = v at *
  simp only [F_is_poll, g_is_poll, a0, a1, a2, a3, a4, i1, isi_str, isi_tup, k0, k1, k2, k3, k4, k5, le_int, gt_int, e0, e1, e2, e3, cLc2, List.isEmpty_nil, List.length_nil, Nat.zero_le, runF, List.length_cons, List.length_nil, if_true, if_false, List.map_cons, List.map_nil, List.cons_append, List.nil_append, List.replicate, sSeq, sIf, sRet, sNil, sSet, sSetN, sPar, sAsg, sFz, fz, sFor, sExpr, sRaise, sWh, rob, cOr, cAnd, cNot, cT, cTru, cB, cIf, c1, c2, cV, cVw, cK, cAndV, cOrV, cNotV, cChain, aCons, aNil, cCall, cB1, cTup, cLst, cLc, cSeqA, cRng1, cRng2, cEnum, enumO, cZip, zipO, cCut, pSome, pNo, oCut, gT, gsCons, gsNil, gN, Rs.bind, Option.bind, Option.map, ofO, cond, truD, fgt, List.foldl, List.set, lim, List.getElem?_cons_zero, List.getElem?_cons_succ, Nat.zero_add, Nat.reduceSub, Nat.reduceAdd, Nat.reduceLeDiff, Nat.reduceEqDiff, Bool.not_true, Bool.not_false, Bool.not_not, Bool.false_and, Bool.true_and, Bool.and_true, Bool.and_false, Bool.false_or, Bool.true_or, Bool.or_true, Bool.or_false, decide_true, decide_false, oNe_int, oEq_int, oEq_str, oNe_str]
theorem E_poll (p : Pl) (g : Good p) : F_is_poll [plD p] = .ok (.bl true) := by
  cases h : p.one with
  | true => exact E_poll_one p g h
  | false => exact E_poll_some p g h
theorem E_lookP (p : Pl) (g : Good p) : F_look [plD p] = .ok .non := by
  have e := E_poll p g
  generalize plD p = v at *
  simp only [F_look, g_look, e, runF, List.length_cons, List.length_nil, if_true, if_false, List.map_cons, List.map_nil, List.cons_append, List.nil_append, List.replicate, sSeq, sIf, sRet, sNil, sSet, sSetN, sPar, sAsg, sFz, fz, sFor, sExpr, sRaise, sWh, rob, cOr, cAnd, cNot, cT, cTru, cB, cIf, c1, c2, cV, cVw, cK, cAndV, cOrV, cNotV, cChain, aCons, aNil, cCall, cB1, cTup, cLst, cLc, cSeqA, cRng1, cRng2, cEnum, enumO, cZip, zipO, cCut, pSome, pNo, oCut, gT, gsCons, gsNil, gN, Rs.bind, Option.bind, Option.map, ofO, cond, truD, fgt, List.foldl, List.set, lim, List.getElem?_cons_zero, List.getElem?_cons_succ, Nat.zero_add, Nat.reduceSub, Nat.reduceAdd, Nat.reduceLeDiff, Nat.reduceEqDiff, Bool.not_true, Bool.not_false, Bool.not_not, Bool.false_and, Bool.true_and, Bool.and_true, Bool.and_false, Bool.false_or, Bool.true_or, Bool.or_true, Bool.or_false, decide_true, decide_false, oNe_int, oEq_int, oEq_str, oNe_str]
/-! ### ends -/
def cdiv (a b : Int) : Int := -(-a / b)
def loF (N u : Int) (w : Str) (t : Int) : Int := if w = "cut" then cdiv (t * N) u else if w = "up" then (t - 1) * N / u + 1 else cdiv ((2 * t - 1) * N) (2 * u)
def hiF (N u : Int) (w : Str) (t : Int) : Int := if w = "cut" then cdiv ((t + 1) * N) u - 1 else if w = "up" then t * N / u else cdiv ((2 * t + 1) * N) (2 * u) - 1
theorem E_up (a b : Int) (h : 0 < b) (h2 : b < 1073741824) : F_up_over [.int a, .int b] = .ok (.int (cdiv a b)) := by
  unfold cdiv
  simp [F_up_over, g_up_over, h, h2]
theorem max_if (a b : Int) : (if a < b then b else a) = max a b := by
  rw [Int.max_def]; split <;> split <;> omega
theorem min_if (a b : Int) : (if b < a then b else a) = min a b := by
  rw [Int.min_def]; split <;> split <;> omega
theorem E_str (N u : Int) (w : Str) (t : Int) (hN : 1 ≤ N) (hN2 : N ≤ 100000) (hu : 2 ≤ u) (hu2 : u ≤ 100) : F_stretch [.int N, .int u, .str w, .int t] = .ok (.tup [.int (max (loF N u w t) 0), .int (min (hiF N u w t) N)]) := by
  have a1 : 0 < u := by omega
  have a2 : u < 1073741824 := by omega
  have a3 : 0 < 2 * u := by omega
  have a4 : 2 * u < 1073741824 := by omega
  have s1 : small N = true := small_of (by omega) (by omega)
  have s2 : small 2 = true := by decide
  have e1 := fun a => E_up a u a1 a2
  have e2 := fun a => E_up a (2 * u) a3 a4
  unfold loF hiF
  by_cases q1 : w = "cut"
  · simp [F_stretch, g_stretch, q1, s1, s2, e1, lim, max_if, min_if]
  · by_cases q2 : w = "up"
    · simp [F_stretch, g_stretch, q2, s1, s2, a1, a2, lim, max_if, min_if]
    · simp [F_stretch, g_stretch, q1, q2, s1, s2, e2, lim, max_if, min_if]
/-! ### the share -/
def shF (c n u : Int) (w : Str) : Int := if w = "cut" then u * c / n else if w = "up" then (u * c + n - 1) / n else (2 * u * c + n) / (2 * n)
theorem E_lsh (c n u : Int) (w : Str) (h1 : 1 ≤ n) (h2 : n ≤ 100000) (h3 : 2 ≤ u) (h4 : u ≤ 100) : F__law_share [.int c, .int n, .int u, .str w] = .ok (.int (shF c n u w)) := by
  have a0 : 0 < n := by omega
  have a1 : n < 1073741824 := by omega
  have a2 : 2 * n < 1073741824 := by omega
  have a3 : 0 < 2 * n := by omega
  have s1 : small u = true := small_of (by omega) (by omega)
  have s2 : small (2 * u) = true := small_of (by omega) (by omega)
  have s3 : small 2 = true := by decide
  unfold shF
  by_cases q1 : w = "cut"
  · simp [F__law_share, g__law_share, q1, a0, a1, s1]
  · by_cases q2 : w = "up"
    · simp [F__law_share, g__law_share, q2, a0, a1, s1]
    · simp [F__law_share, g__law_share, q1, q2, a0, a1, a2, a3, s1, s2, s3]
theorem cdiv_le {a b c : Int} (h : 0 < b) : cdiv a b ≤ c ↔ a ≤ b * c := by
  unfold cdiv
  have e : (-c ≤ -a / b) ↔ (-c * b ≤ -a) := Int.le_ediv_iff_mul_le h
  have m : -c * b = -(b * c) := by rw [Int.neg_mul, Int.mul_comm]
  rw [m] at e
  omega
theorem le_cdiv {a b c : Int} (h : 0 < b) : c ≤ cdiv a b - 1 ↔ b * c < a := by
  have e := cdiv_le (a := a) (c := c) h
  omega
theorem div_is {a n t : Int} (h : 0 < n) : a / n = t ↔ t * n ≤ a ∧ a < (t + 1) * n := by
  have e1 : t ≤ a / n ↔ t * n ≤ a := Int.le_ediv_iff_mul_le h
  have e2 : a / n < t + 1 ↔ a < (t + 1) * n := Int.ediv_lt_iff_lt_mul h
  omega
/-- a count has the share told just if it is in the stretch -/
theorem share_iff (c n u t : Int) (w : Str) (hn : 1 ≤ n) (hu : 2 ≤ u) : shF c n u w = t ↔ loF n u w t ≤ c ∧ c ≤ hiF n u w t := by
  have a0 : 0 < n := by omega
  have a1 : 0 < u := by omega
  have a2 : 0 < 2 * n := by omega
  have a3 : 0 < 2 * u := by omega
  unfold shF loF hiF
  by_cases q1 : w = "cut"
  · simp only [q1, if_true]
    rw [div_is a0, cdiv_le a1, le_cdiv a1]
  · simp only [q1, if_false]
    by_cases q2 : w = "up"
    · simp only [q2, if_true]
      rw [div_is a0]
      have e1 : (t - 1) * n / u + 1 ≤ c ↔ (t - 1) * n < c * u := by
        have : (t - 1) * n / u < c ↔ (t - 1) * n < c * u := Int.ediv_lt_iff_lt_mul a1
        omega
      have e2 : c ≤ t * n / u ↔ c * u ≤ t * n := Int.le_ediv_iff_mul_le a1
      rw [e1, e2, Int.mul_comm c u, Int.add_mul, Int.sub_mul, Int.one_mul]
      omega
    · simp only [q2, if_false]
      rw [div_is a2, cdiv_le a3, le_cdiv a3]
      have e1 : t * (2 * n) = 2 * (t * n) := by rw [Int.mul_left_comm]
      have e2 : (t + 1) * (2 * n) = 2 * (t * n) + 2 * n := by rw [Int.add_mul, e1, Int.one_mul]
      have e3 : (2 * t - 1) * n = 2 * (t * n) - n := by rw [Int.sub_mul, Int.mul_assoc, Int.one_mul]
      have e4 : (2 * t + 1) * n = 2 * (t * n) + n := by rw [Int.add_mul, Int.mul_assoc, Int.one_mul]
      rw [e1, e2, e3, e4]
      omega
end Sh
namespace Sh
open PySem L2 Dl
theorem lt_int (a b : Int) : oLt (.int a) (.int b) = some (.bl (decide (a < b))) := rfl
theorem oAdd_int (a b : Int) : oAdd (.int a) (.int b) = some (.int (a + b)) := rfl
theorem oSub_int (a b : Int) : oSub (.int a) (.int b) = some (.int (a - b)) := rfl
theorem oNeg_int (a : Int) : oNeg (.int a) = some (.int (-a)) := rfl
/-! ### ends_of -/
abbrev Lot := List Int
def prD (p : Int × Int) : Dt := .tup [.int p.1, .int p.2]
def edD (ls : List Lot) (e : Lot → Int × Int) : DD := ls.map fun l => (l.map Sum.inl, prD (e l))
def upE {α : Type} (e : Lot → α) (l : Lot) (v : α) : Lot → α := fun x => if x = l then v else e x
theorem mapD_any (ls : List Lot) (g : Lot → Dt) (l : Lot) : ((ls.map fun l => (l.map (Sum.inl : Int → Key), g l)).any fun kv => decide (kv.1 = l.map Sum.inl)) = decide (l ∈ ls) := by
  induction ls with
  | nil => rfl
  | cons j ks ih =>
    rw [List.map_cons, List.any_cons, ih]
    by_cases h : j = l
    · subst h; simp
    · have h' : ¬ l = j := fun e => h e.symm
      simp [inl_eq, h, h']
theorem put_map (ls : List Lot) (g : Lot → Dt) (l : Lot) (v : Dt) (h : l ∈ ls) : putD (ls.map fun l => (l.map (Sum.inl : Int → Key), g l)) (l.map Sum.inl) v = ls.map fun x => (x.map Sum.inl, if x = l then v else g x) := by
  unfold putD
  rw [mapD_any]
  simp only [h, decide_true, if_true]
  rw [List.map_map]
  refine List.map_congr_left fun x _ => ?_
  simp only [Function.comp_apply, inl_eq]
  split <;> rfl
theorem put_snoc (ls : List Lot) (g : Lot → Dt) (l : Lot) (v : Dt) (h : l ∉ ls) : putD (ls.map fun l => (l.map (Sum.inl : Int → Key), g l)) (l.map Sum.inl) v = (ls.map fun l => (l.map (Sum.inl : Int → Key), g l)) ++ [(l.map Sum.inl, v)] := by
  unfold putD
  rw [mapD_any]
  simp only [h, decide_false, Bool.false_eq_true, if_false]
theorem val_map (ls : List Lot) (g : Lot → Dt) (l : Lot) : valD (ls.map fun l => (l.map (Sum.inl : Int → Key), g l)) (l.map Sum.inl) = if l ∈ ls then some (g l) else none := by
  unfold valD
  induction ls with
  | nil => rfl
  | cons j ks ih =>
    rw [List.map_cons, List.find?_cons]
    by_cases h : j = l
    · subst h; simp
    · have h' : ¬ l = j := fun e => h e.symm
      have d : decide ((j.map (Sum.inl : Int → Key)) = l.map Sum.inl) = false := by simp [inl_eq, h]
      simp only [d, ih, List.mem_cons, h', false_or]
theorem put_ed (ls : List Lot) (e : Lot → Int × Int) (l : Lot) (v : Int × Int) (h : l ∈ ls) : putD (edD ls e) (l.map Sum.inl) (prD v) = edD ls (upE e l v) := by
  unfold edD
  rw [put_map ls (fun l => prD (e l)) l _ h]
  refine List.map_congr_left fun x _ => ?_
  unfold upE
  split <;> rfl
theorem at_map (ls : List Lot) (g : Lot → Dt) (l : Lot) (h : l ∈ ls) : oAt (.dct (ls.map fun l => (l.map (Sum.inl : Int → Key), g l))) (lotD l) = some (g l) := by
  show (keyD (lotD l)).bind (valD _) = _
  rw [key_lot]
  show valD _ (l.map Sum.inl) = _
  rw [val_map, if_pos h]
theorem at_ed (ls : List Lot) (e : Lot → Int × Int) (l : Lot) (h : l ∈ ls) : oAt (.dct (edD ls e)) (lotD l) = some (prD (e l)) := at_map ls (fun l => prD (e l)) l h
theorem ed_len (ls : List Lot) (e : Lot → Int × Int) : (edD ls e).length = ls.length := by simp [edD]
theorem goDc_lots (tg : Gv) (f g : Ev) (ρ : List Sl) (G : Lot → Dt) : ∀ (ls pre : List Lot), (pre ++ ls).Nodup → (∀ l ∈ ls, ∃ ρ1, tg (lotD l) ρ = some ρ1 ∧ f ρ1 = .ok (lotD l) ∧ g ρ1 = .ok (G l)) →
    goDc tg f g (ls.map lotD) ρ (pre.map fun l => (l.map Sum.inl, G l)) = .ok ((pre ++ ls).map fun l => (l.map Sum.inl, G l))
  | [], pre, _, _ => by rw [List.append_nil]; rfl
  | l :: ls, pre, nd, h => by
    obtain ⟨ρ1, h1, h2, h3⟩ := h l List.mem_cons_self
    have hn : l ∉ pre := fun m => by
      have := (List.nodup_append.mp nd).2.2 l m l List.mem_cons_self
      exact this rfl
    have nd' : ((pre ++ [l]) ++ ls).Nodup := by rw [List.append_assoc]; exact nd
    have ih := goDc_lots tg f g ρ G ls (pre ++ [l]) nd' fun x hx => h x (List.mem_cons_of_mem _ hx)
    rw [List.map_cons, goDc_cons, h1]
    dsimp only
    rw [h2, h3]
    dsimp only
    rw [key_lot]
    dsimp only
    rw [put_snoc pre G l _ hn]
    have e : (pre.map fun l => (l.map (Sum.inl : Int → Key), G l)) ++ [(l.map Sum.inl, G l)] = (pre ++ [l]).map fun l => (l.map Sum.inl, G l) := by rw [List.map_append]; rfl
    rw [e, ih, List.append_assoc]
    rfl
theorem put_ed_nx {i : Nat} {fk fv : Ev} {ρ : List Sl} {ls : List Lot} {e : Lot → Int × Int} {l : Lot} {v : Int × Int} (h0 : ρ[i]? = some (.ow (.dct (edD ls e)))) (h1 : fv ρ = .ok (prD v)) (h2 : fk ρ = .ok (lotD l)) (hm : l ∈ ls) (h3 : ls.length < 16000000) :
    sPut i fk fv ρ = .nx (ρ.set i (.ow (.dct (edD ls (upE e l v))))) := by
  have h4 : (edD ls e).length < 16000000 := by rw [ed_len]; exact h3
  simp only [sPut, h0, h1, h2, rob, key_lot, lim, h4, if_true, put_ed ls e l v hm]
/-! ### the lots of a poll -/
def lotsP (p : Pl) : List Lot := sortLots (keysP p)
theorem mem_addL {ks : List Lot} {k x : Lot} : x ∈ addL ks k ↔ x = k ∨ x ∈ ks := by
  unfold addL
  split
  · rename_i h
    exact ⟨.inr, fun z => z.elim (fun e => e ▸ h) id⟩
  · rw [List.mem_append, List.mem_singleton]; exact or_comm
theorem nodup_addL {ks : List Lot} {k : Lot} (h : ks.Nodup) : (addL ks k).Nodup := by
  unfold addL
  split
  · exact h
  · rename_i n
    rw [List.nodup_append]
    exact ⟨h, by simp, fun a ha b hb e => n (by rw [← List.mem_singleton.mp hb, ← e]; exact ha)⟩
theorem mem_foldL {α : Type} (f : α → Lot) (xs : List α) : ∀ (ks : List Lot) (x : Lot), x ∈ xs.foldl (fun ks a => addL ks (f a)) ks ↔ x ∈ ks ∨ ∃ a ∈ xs, f a = x := by
  induction xs with
  | nil => intro ks x; simp
  | cons a xs ih =>
    intro ks x
    rw [List.foldl_cons, ih, mem_addL]
    constructor
    · rintro ((h | h) | ⟨b, hb, h⟩)
      · exact .inr ⟨a, List.mem_cons_self, h.symm⟩
      · exact .inl h
      · exact .inr ⟨b, List.mem_cons_of_mem _ hb, h⟩
    · rintro (h | ⟨b, hb, h⟩)
      · exact .inl (.inr h)
      · rcases List.mem_cons.mp hb with rfl | hb
        · exact .inl (.inl h.symm)
        · exact .inr ⟨b, hb, h⟩
theorem nodup_foldL {α : Type} (f : α → Lot) (xs : List α) : ∀ (ks : List Lot), ks.Nodup → (xs.foldl (fun ks a => addL ks (f a)) ks).Nodup := by
  induction xs with
  | nil => intro ks h; exact h
  | cons a xs ih => intro ks h; rw [List.foldl_cons]; exact ih _ (nodup_addL h)
theorem mem_shows (ss : List Dl.Sh) : ∀ (ks : List Lot) (x : Lot), x ∈ ss.foldl keysOf ks ↔ x ∈ ks ∨ ∃ s ∈ ss, ∃ q ∈ s.ps, q.1 = x := by
  induction ss with
  | nil => intro ks x; simp
  | cons s ss ih =>
    intro ks x
    rw [List.foldl_cons, ih]
    unfold keysOf
    rw [mem_foldL (fun q : Lot × Int => q.1) s.ps]
    constructor
    · rintro ((h | ⟨q, hq, h⟩) | ⟨t, ht, h⟩)
      · exact .inl h
      · exact .inr ⟨s, List.mem_cons_self, q, hq, h⟩
      · exact .inr ⟨t, List.mem_cons_of_mem _ ht, h⟩
    · rintro (h | ⟨t, ht, h⟩)
      · exact .inl (.inl h)
      · rcases List.mem_cons.mp ht with rfl | ht
        · exact .inl (.inr h)
        · exact .inr ⟨t, ht, h⟩
theorem nodup_shows (ss : List Dl.Sh) : ∀ (ks : List Lot), ks.Nodup → (ss.foldl keysOf ks).Nodup := by
  induction ss with
  | nil => intro ks h; exact h
  | cons s ss ih => intro ks h; rw [List.foldl_cons]; exact ih _ (nodup_foldL (fun q : Lot × Int => q.1) s.ps ks h)
theorem mem_keysP (p : Pl) (x : Lot) : x ∈ keysP p ↔ (p.one = true ∧ x = rng p.n.toNat) ∨ (∃ i ∈ rng p.n.toNat, x = [i]) ∨ ∃ s ∈ p.ss, ∃ q ∈ s.ps, q.1 = x := by
  unfold keysP ks0
  rw [mem_shows, mem_foldL (fun i : Int => [i])]
  have e : x ∈ (if p.one = true then [rng p.n.toNat] else []) ↔ p.one = true ∧ x = rng p.n.toNat := by
    cases p.one <;> simp
  rw [e]
  constructor
  · rintro ((h | ⟨i, hi, h⟩) | h)
    · exact .inl h
    · exact .inr (.inl ⟨i, hi, h.symm⟩)
    · exact .inr (.inr h)
  · rintro (h | ⟨i, hi, h⟩ | h)
    · exact .inl (.inl h)
    · exact .inl (.inr ⟨i, hi, h.symm⟩)
    · exact .inr h
theorem nodup_keysP (p : Pl) : (keysP p).Nodup := by
  unfold keysP ks0
  refine nodup_shows _ _ (nodup_foldL (fun i : Int => [i]) _ _ ?_)
  cases p.one <;> simp
theorem perm_lotsP (p : Pl) : (lotsP p).Perm (keysP p) := srtB_perm _
theorem nodup_lotsP (p : Pl) : (lotsP p).Nodup := (perm_lotsP p).nodup_iff.mpr (nodup_keysP p)
theorem mem_lotsP (p : Pl) (x : Lot) : x ∈ lotsP p ↔ (p.one = true ∧ x = rng p.n.toNat) ∨ (∃ i ∈ rng p.n.toNat, x = [i]) ∨ ∃ s ∈ p.ss, ∃ q ∈ s.ps, q.1 = x := by
  rw [(perm_lotsP p).mem_iff, mem_keysP]
/-- what is needed of a poll's size -/
structure Sized (p : Pl) : Prop where
  n1 : 1 ≤ p.n
  n2 : p.n ≤ 1000
  s : p.ss.length ≤ 1000
  q : ∀ s ∈ p.ss, s.ps.length ≤ 1000
  u1 : ∀ s ∈ p.ss, 2 ≤ s.u
  u2 : ∀ s ∈ p.ss, s.u ≤ 100
theorem E_lotsP (p : Pl) (z : Sized p) : F_all_lots [plD p] = .ok (.lst ((lotsP p).map lotD)) := E_lots p (by have := z.n1; omega) z.n2 z.s z.q
theorem len_rng (n : Nat) : (rng n).length = n := by unfold rng; simp
theorem len_keysP (p : Pl) (z : Sized p) : (keysP p).length ≤ 1100000 := by
  have rl := len_rng p.n.toNat
  obtain ⟨e1, l1⟩ := things_loop (plD p) (rng p.n.toNat) (if p.one then [rng p.n.toNat] else []) (by have := z.n2; omega) (by split <;> simp)
  obtain ⟨e2, l2⟩ := shows_loop (plD p) p.ss (ks0 p) z.s z.q (by unfold ks0; have := z.n2; omega)
  have h : (keysP p).length ≤ 1001 + 1000 * (0 + p.ss.length) := l2
  have := z.s
  omega
theorem len_lotsP (p : Pl) (z : Sized p) : (lotsP p).length ≤ 1100000 := by rw [(perm_lotsP p).length_eq]; exact len_keysP p z
/-! ### ends_of -/
def stL (N : Int) (s : Dl.Sh) (t : Int) : Int × Int := (max (loF N s.u s.w t) 0, min (hiF N s.u s.w t) N)
def pE (N : Int) (s : Dl.Sh) (e : Lot → Int × Int) (q : Lot × Int) : Lot → Int × Int := upE e q.1 (max (stL N s q.2).1 (e q.1).1, min (stL N s q.2).2 (e q.1).2)
def sE (N : Int) (e : Lot → Int × Int) (s : Dl.Sh) : Lot → Int × Int := s.ps.foldl (pE N s) e
def e0 (p : Pl) (N : Int) : Lot → Int × Int := if p.one then upE (fun _ => (0, N)) (rng p.n.toNat) (N, N) else fun _ => (0, N)
def endF (p : Pl) (N : Int) : Lot → Int × Int := p.ss.foldl (sE N) (e0 p N)
theorem at_prD0 (p : Int × Int) : oAt (prD p) (.int 0) = some (.int p.1) := rfl
theorem at_prD1 (p : Int × Int) : oAt (prD p) (.int 1) = some (.int p.2) := rfl
theorem endp_step (p : Pl) (N : Int) (v pv : Dt) (ls : List Lot) (s : Dl.Sh) (e : Lot → Int × Int) (q : Lot × Int) (hm : q.1 ∈ ls) (hl : ls.length < 16000000) (hN : 1 ≤ N) (hN2 : N ≤ 100000) (hu : 2 ≤ s.u) (hu2 : s.u ≤ 100) :
    b_ends_of_1 [.va v, .va (.int N), .ow (.dct (edD ls e)), .va (.int s.u), .va (.str s.w), .va pv, .va (lotD q.1), .va (.int q.2), .no, .no] =
    .nx [.va v, .va (.int N), .ow (.dct (edD ls (pE N s e q))), .va (.int s.u), .va (.str s.w), .va pv, .va (lotD q.1), .va (.int q.2), .va (.int (stL N s q.2).1), .va (.int (stL N s q.2).2)] := by
  have e1 := E_str N s.u s.w q.2 hN hN2 hu hu2
  have a := at_ed ls e q.1 hm
  unfold b_ends_of_1
  refine (seq_nx (ρ' := [.va v, .va (.int N), .ow (.dct (edD ls e)), .va (.int s.u), .va (.str s.w), .va pv, .va (lotD q.1), .va (.int q.2), .va (.int (stL N s q.2).1), .va (.int (stL N s q.2).2)]) ?_).trans ?_
  · unfold stL
    simp only [e1, runF, List.length_cons, List.length_nil, if_true, if_false, List.map_cons, List.map_nil, List.cons_append, List.nil_append, List.replicate, sSeq, sIf, sRet, sNil, sSet, sSetN, sPar, sAsg, sFz, fz, sFor, sExpr, sRaise, sWh, rob, cOr, cAnd, cNot, cT, cTru, cB, cIf, c1, c2, cV, cVw, cK, cAndV, cOrV, cNotV, cChain, aCons, aNil, cCall, cB1, cTup, cLst, cLc, cSeqA, cRng1, cRng2, cEnum, enumO, cZip, zipO, cCut, pSome, pNo, oCut, gT, gsCons, gsNil, gN, Rs.bind, Option.bind, Option.map, ofO, cond, truD, fgt, List.foldl, List.set, lim, List.getElem?_cons_zero, List.getElem?_cons_succ, Nat.zero_add, Nat.reduceSub, Nat.reduceAdd, Nat.reduceLeDiff, Nat.reduceEqDiff, Bool.not_true, Bool.not_false, Bool.not_not, Bool.false_and, Bool.true_and, Bool.and_true, Bool.and_false, Bool.false_or, Bool.true_or, Bool.or_true, Bool.or_false, decide_true, decide_false, oNe_int, oEq_int, oEq_str, oNe_str]
  · refine put_ed_nx (l := q.1) (v := (max (stL N s q.2).1 (e q.1).1, min (stL N s q.2).2 (e q.1).2)) rfl ?_ rfl hm hl
    have m1 := max_if (stL N s q.2).1 (e q.1).1
    have m2 := min_if (stL N s q.2).2 (e q.1).2
    generalize stL N s q.2 = st at *
    simp only [a, m1, m2, prD, runF, List.length_cons, List.length_nil, if_true, if_false, List.map_cons, List.map_nil, List.cons_append, List.nil_append, List.replicate, sSeq, sIf, sRet, sNil, sSet, sSetN, sPar, sAsg, sFz, fz, sFor, sExpr, sRaise, sWh, rob, cOr, cAnd, cNot, cT, cTru, cB, cIf, c1, c2, cV, cVw, cK, cAndV, cOrV, cNotV, cChain, aCons, aNil, cCall, cB1, cTup, cLst, cLc, cSeqA, cRng1, cRng2, cEnum, enumO, cZip, zipO, cCut, pSome, pNo, oCut, gT, gsCons, gsNil, gN, Rs.bind, Option.bind, Option.map, ofO, cond, truD, fgt, List.foldl, List.set, lim, List.getElem?_cons_zero, List.getElem?_cons_succ, Nat.zero_add, Nat.reduceSub, Nat.reduceAdd, Nat.reduceLeDiff, Nat.reduceEqDiff, Bool.not_true, Bool.not_false, Bool.not_not, Bool.false_and, Bool.true_and, Bool.and_true, Bool.and_false, Bool.false_or, Bool.true_or, Bool.or_true, Bool.or_false, decide_true, decide_false, oNe_int, oEq_int, oEq_str, oNe_str, at20, at21, at30, at31, at32, len2, len3, isi_tup, isi_str, le_int, gt_int, lt_int, ge_int, oMax2, oMin2, gt_iff_lt, max_if, min_if, oAdd_int, oSub_int, oNeg_int, cDc, cTupRg, dec_refl, tvYes, List.isEmpty_nil, List.isEmpty_cons]
theorem endp_loop (p : Pl) (N : Int) (v : Dt) (ls : List Lot) (s : Dl.Sh) (e : Lot → Int × Int) (hm : ∀ q ∈ s.ps, q.1 ∈ ls) (hl : ls.length < 16000000) (hN : 1 ≤ N) (hN2 : N ≤ 100000) (hu : 2 ≤ s.u) (hu2 : s.u ≤ 100) :
    b_ends_of_2 [.va v, .va (.int N), .ow (.dct (edD ls e)), .va (.int s.u), .va (.str s.w), .va (.tup (s.ps.map ptD)), .no, .no, .no, .no] =
    .nx [.va v, .va (.int N), .ow (.dct (edD ls (sE N e s))), .va (.int s.u), .va (.str s.w), .va (.tup (s.ps.map ptD)), .no, .no, .no, .no] := by
  refine (goFor_fold ptD (fun e => [.va v, .va (.int N), .ow (.dct (edD ls e)), .va (.int s.u), .va (.str s.w), .va (.tup (s.ps.map ptD)), .no, .no, .no, .no]) (pE N s) (fun _ => True) s.ps e trivial ?_).1
  intro e q hq _
  exact ⟨trivial, [.va v, .va (.int N), .ow (.dct (edD ls e)), .va (.int s.u), .va (.str s.w), .va (.tup (s.ps.map ptD)), .va (lotD q.1), .va (.int q.2), .no, .no], _, rfl, endp_step p N v _ ls s e q (hm q hq) hl hN hN2 hu hu2, rfl⟩
theorem ends_loop (p : Pl) (N : Int) (v : Dt) (ls : List Lot) (e : Lot → Int × Int) (hm : ∀ s ∈ p.ss, ∀ q ∈ s.ps, q.1 ∈ ls) (z : Sized p) (hl : ls.length < 16000000) (hN : 1 ≤ N) (hN2 : N ≤ 100000) :
    goFor (gT (gsCons (gN 3) (gsCons (gN 4) (gsCons (gN 5) gsNil)))) [3, 4, 5, 6, 7, 8, 9] b_ends_of_2 (p.ss.map shD) [.va v, .va (.int N), .ow (.dct (edD ls e)), .no, .no, .no, .no, .no, .no, .no] =
    .nx [.va v, .va (.int N), .ow (.dct (edD ls (p.ss.foldl (sE N) e))), .no, .no, .no, .no, .no, .no, .no] := by
  refine (goFor_fold shD (fun e => [.va v, .va (.int N), .ow (.dct (edD ls e)), .no, .no, .no, .no, .no, .no, .no]) (sE N) (fun _ => True) p.ss e trivial ?_).1
  intro e s hs _
  exact ⟨trivial, [.va v, .va (.int N), .ow (.dct (edD ls e)), .va (.int s.u), .va (.str s.w), .va (.tup (s.ps.map ptD)), .no, .no, .no, .no], _, rfl, endp_loop p N v ls s e (hm s hs) hl hN hN2 (z.u1 s hs) (z.u2 s hs), rfl⟩
theorem inR_of {i : Int} (h1 : -1000000000 ≤ i) (h2 : i ≤ 1000000000) : inR i = true := by
  unfold inR; rw [Bool.and_eq_true]; exact ⟨decide_eq_true (by omega), decide_eq_true (by omega)⟩
theorem E_ends_of (p : Pl) (N : Int) (z : Sized p) (hN : 1 ≤ N) (hN2 : N ≤ 100000) : F_ends_of [plD p, .int N] = .ok (.dct (edD (lotsP p) (endF p N))) := by
  have e1 := E_lotsP p z
  have ml : ∀ s ∈ p.ss, ∀ q ∈ s.ps, q.1 ∈ lotsP p := fun s hs q hq => (mem_lotsP p q.1).mpr (.inr (.inr ⟨s, hs, q, hq, rfl⟩))
  have ln := len_lotsP p z
  have l1 : ((lotsP p).map lotD).length ≤ 16000000 := by simp; omega
  have n1 := z.n1
  have n2 := z.n2
  have r2 : rngD 0 p.n.toNat = (rng p.n.toNat).map Dt.int := rngD_map _
  have r1 : inR p.n = true := inR_of (by omega) (by omega)
  have d : goDc (gN 6) (cV 6) (cTup (aCons (cK (.int 0)) (aCons (cV 1) aNil))) ((lotsP p).map lotD) [.va (plD p), .va (.int N), .no, .no, .no, .no, .no, .no, .no, .no] [] = .ok (edD (lotsP p) fun _ => (0, N)) := by
    refine goDc_lots _ _ _ _ (fun _ => prD (0, N)) (lotsP p) [] (nodup_lotsP p) fun l hl => ?_
    exact ⟨_, rfl, rfl, rfl⟩
  have e2 := ends_loop p N (plD p) (lotsP p) (e0 p N) ml z (by omega) hN hN2
  have a0 : oAt (plD p) (.int 0) = some (.int p.n) := rfl
  have a1 : oAt (plD p) (.int 1) = some (.str (kindS p.one)) := rfl
  have a2 : oAt (plD p) (.int 2) = some (.tup (p.ss.map shD)) := rfl
  have a3 : decide (kindS p.one = "one") = p.one := by cases p.one <;> decide +kernel
  have e3 : p.one = true → sPut 2 (cTupRg (c2 oAt (cVw 0) (cK (.int 0)))) (cTup (aCons (cV 1) (aCons (cV 1) aNil))) [.va (plD p), .va (.int N), .ow (.dct (edD (lotsP p) fun _ => (0, N))), .no, .no, .no, .no, .no, .no, .no] = .nx [.va (plD p), .va (.int N), .ow (.dct (edD (lotsP p) (upE (fun _ => (0, N)) (rng p.n.toNat) (N, N)))), .no, .no, .no, .no, .no, .no, .no] := fun h1 => by
    refine put_ed_nx (l := rng p.n.toNat) (v := (N, N)) rfl rfl ?_ ((mem_lotsP p _).mpr (.inl ⟨h1, rfl⟩)) (by omega)
    have r3 : oRng (.int p.n) = some ((rng p.n.toNat).map Dt.int) := by
      rw [← r2]
      exact if_pos (by rw [Bool.and_eq_true]; exact ⟨decide_eq_true (by omega), decide_eq_true (by omega)⟩)
    have r4 : lotD (rng p.n.toNat) = .tup ((rng p.n.toNat).map Dt.int) := rfl
    generalize plD p = v at *
    simp only [cTupRg, a0, r3, r4, runF, List.length_cons, List.length_nil, if_true, if_false, List.map_cons, List.map_nil, List.cons_append, List.nil_append, List.replicate, sSeq, sIf, sRet, sNil, sSet, sSetN, sPar, sAsg, sFz, fz, sFor, sExpr, sRaise, sWh, rob, cOr, cAnd, cNot, cT, cTru, cB, cIf, c1, c2, cV, cVw, cK, cAndV, cOrV, cNotV, cChain, aCons, aNil, cCall, cB1, cTup, cLst, cLc, cSeqA, cRng1, cRng2, cEnum, enumO, cZip, zipO, cCut, pSome, pNo, oCut, gT, gsCons, gsNil, gN, Rs.bind, Option.bind, Option.map, ofO, cond, truD, fgt, List.foldl, List.set, lim, List.getElem?_cons_zero, List.getElem?_cons_succ, Nat.zero_add, Nat.reduceSub, Nat.reduceAdd, Nat.reduceLeDiff, Nat.reduceEqDiff, Bool.not_true, Bool.not_false, Bool.not_not, Bool.false_and, Bool.true_and, Bool.and_true, Bool.and_false, Bool.false_or, Bool.true_or, Bool.or_true, Bool.or_false, decide_true, decide_false, oNe_int, oEq_int, oEq_str, oNe_str]
  unfold endF
  unfold e0 at e2 ⊢
  generalize plD p = v at *
  generalize p.ss.foldl (sE N) = F at *
  cases h : p.one <;> rw [h] at e2 a3 a1 e3 <;> simp only [Bool.false_eq_true, if_false, if_true] at e2 ⊢
  · simp only [F_ends_of, g_ends_of, e1, l1, a1, a2, a3, cDc, d, e2, runF, List.length_cons, List.length_nil, if_true, if_false, List.map_cons, List.map_nil, List.cons_append, List.nil_append, List.replicate, sSeq, sIf, sRet, sNil, sSet, sSetN, sPar, sAsg, sFz, fz, sFor, sExpr, sRaise, sWh, rob, cOr, cAnd, cNot, cT, cTru, cB, cIf, c1, c2, cV, cVw, cK, cAndV, cOrV, cNotV, cChain, aCons, aNil, cCall, cB1, cTup, cLst, cLc, cSeqA, cRng1, cRng2, cEnum, enumO, cZip, zipO, cCut, pSome, pNo, oCut, gT, gsCons, gsNil, gN, Rs.bind, Option.bind, Option.map, ofO, cond, truD, fgt, List.foldl, List.set, lim, List.getElem?_cons_zero, List.getElem?_cons_succ, Nat.zero_add, Nat.reduceSub, Nat.reduceAdd, Nat.reduceLeDiff, Nat.reduceEqDiff, Bool.not_true, Bool.not_false, Bool.not_not, Bool.false_and, Bool.true_and, Bool.and_true, Bool.and_false, Bool.false_or, Bool.true_or, Bool.or_true, Bool.or_false, decide_true, decide_false, oNe_int, oEq_int, oEq_str, oNe_str]
  · have e3 := e3 rfl
    simp only [F_ends_of, g_ends_of, e1, l1, a1, a2, a3, cDc, d, e3, e2, runF, List.length_cons, List.length_nil, if_true, if_false, List.map_cons, List.map_nil, List.cons_append, List.nil_append, List.replicate, sSeq, sIf, sRet, sNil, sSet, sSetN, sPar, sAsg, sFz, fz, sFor, sExpr, sRaise, sWh, rob, cOr, cAnd, cNot, cT, cTru, cB, cIf, c1, c2, cV, cVw, cK, cAndV, cOrV, cNotV, cChain, aCons, aNil, cCall, cB1, cTup, cLst, cLc, cSeqA, cRng1, cRng2, cEnum, enumO, cZip, zipO, cCut, pSome, pNo, oCut, gT, gsCons, gsNil, gN, Rs.bind, Option.bind, Option.map, ofO, cond, truD, fgt, List.foldl, List.set, lim, List.getElem?_cons_zero, List.getElem?_cons_succ, Nat.zero_add, Nat.reduceSub, Nat.reduceAdd, Nat.reduceLeDiff, Nat.reduceEqDiff, Bool.not_true, Bool.not_false, Bool.not_not, Bool.false_and, Bool.true_and, Bool.and_true, Bool.and_false, Bool.false_or, Bool.true_or, Bool.or_true, Bool.or_false, decide_true, decide_false, oNe_int, oEq_int, oEq_str, oNe_str]
end Sh
namespace Sh
open PySem L2 Dl
/-! ### lots that are good -/
theorem adj_asc : ∀ {l : List Int}, adjB (fun x y => decide (y ≤ x)) l = true → l.Pairwise (· < ·)
  | [], _ => .nil
  | [x], _ => by simp
  | x :: y :: r, h => by
    simp only [adjB, Bool.and_eq_true, Bool.not_eq_true', decide_eq_false_iff_not, Int.not_le] at h
    have ih := adj_asc h.2
    refine List.pairwise_cons.mpr ⟨fun z hz => ?_, ih⟩
    rcases List.mem_cons.mp hz with rfl | hz
    · exact h.1
    · have := List.rel_of_pairwise_cons ih hz; omega
theorem asc_adj : ∀ {l : List Int}, l.Pairwise (· < ·) → adjB (fun x y => decide (y ≤ x)) l = true
  | [], _ => rfl
  | [x], _ => rfl
  | x :: y :: r, h => by
    have h1 := List.rel_of_pairwise_cons h (List.mem_cons_self (a := y) (l := r))
    simp only [adjB, Bool.and_eq_true, Bool.not_eq_true', decide_eq_false_iff_not, Int.not_le]
    exact ⟨h1, asc_adj h.of_cons⟩
structure LotOk (n : Int) (l : Lot) : Prop where
  ne : l ≠ []
  lo : ∀ x ∈ l, 0 ≤ x ∧ x < n
  asc : l.Pairwise (· < ·)
theorem lotB_iff {n : Int} {l : Lot} : lotB n l = true ↔ LotOk n l := by
  unfold lotB
  simp only [Bool.and_eq_true, Bool.not_eq_true', List.all_eq_true, inB, decide_eq_true_eq, List.isEmpty_eq_false_iff]
  constructor
  · rintro ⟨h1, h2, h3⟩
    exact ⟨h1, fun x hx => by have := h2 x hx; omega, adj_asc h3⟩
  · rintro ⟨h1, h2, h3⟩
    exact ⟨h1, fun x hx => by have := h2 x hx; omega, asc_adj h3⟩
theorem asc_eq : ∀ (l : List Int) (a : Int), l.Pairwise (· < ·) → (∀ x ∈ l, a ≤ x ∧ x < a + l.length) → l = (List.range l.length).map fun i : Nat => a + (i : Int)
  | [], _, _, _ => rfl
  | x :: r, a, h, b => by
    have hx := b x List.mem_cons_self
    have hr : ∀ y ∈ r, x < y := fun y hy => List.rel_of_pairwise_cons h hy
    have ih := asc_eq r (a + 1) h.of_cons fun y hy => by
      have h1 := hr y hy
      have h2 := b y (List.mem_cons_of_mem _ hy)
      simp only [List.length_cons] at h2
      omega
    have ex : x = a := by
      cases r with
      | nil => simp only [List.length_cons, List.length_nil] at hx; omega
      | cons y r' =>
        have e0 : y = a + 1 := by
          have := congrArg (fun z : List Int => z[0]?) ih
          simp [List.range_succ_eq_map] at this
          omega
        have := hr y List.mem_cons_self
        omega
    subst ex
    rw [List.length_cons, List.range_succ_eq_map, List.map_cons, List.map_map]
    have e : r = (List.range r.length).map ((fun i : Nat => x + (i : Int)) ∘ Nat.succ) := by
      rw [ih]
      simp only [List.length_map, List.length_range]
      refine List.map_congr_left fun i _ => ?_
      simp only [Function.comp_apply]
      omega
    rw [← e]
    simp
theorem full_eq {n : Int} {l : Lot} (h : LotOk n l) (hl : (l.length : Int) = n) : l = rng n.toNat := by
  have e := asc_eq l 0 h.asc fun x hx => by have := h.lo x hx; omega
  rw [e]
  unfold rng
  have : n.toNat = l.length := by omega
  rw [this]
  simp
theorem mem_rng {n : Nat} {x : Int} : x ∈ rng n ↔ 0 ≤ x ∧ x < n := by
  unfold rng
  rw [List.mem_map]
  constructor
  · rintro ⟨i, hi, rfl⟩; have := List.mem_range.mp hi; omega
  · rintro ⟨h1, h2⟩; exact ⟨x.toNat, List.mem_range.mpr (by omega), by omega⟩
theorem asc_rng (n : Nat) : (rng n).Pairwise (· < ·) := by
  unfold rng
  rw [List.pairwise_map]
  exact List.Pairwise.imp (fun h => by omega) List.pairwise_lt_range
theorem ok_rng {n : Int} (h : 1 ≤ n) : LotOk n (rng n.toNat) := ⟨fun e => by have := congrArg List.length e; rw [len_rng] at this; simp at this; omega, fun x hx => by have := mem_rng.mp hx; omega, asc_rng _⟩
theorem ok_one {n i : Int} (h : 0 ≤ i) (h2 : i < n) : LotOk n [i] := ⟨by simp, fun x hx => by simp at hx; omega, by simp⟩
theorem shB_ok {n : Int} {s : Dl.Sh} (h : shB n s = true) : (2 ≤ s.u ∧ s.u ≤ 100) ∧ (s.w = "cut" ∨ s.w = "near" ∨ s.w = "up") ∧ s.ps ≠ [] ∧ (∀ q ∈ s.ps, LotOk n q.1 ∧ 0 ≤ q.2 ∧ q.2 ≤ s.u) := by
  unfold shB at h
  simp only [Bool.and_eq_true, decide_eq_true_eq, Bool.not_eq_true', List.isEmpty_eq_false_iff, List.all_eq_true] at h
  obtain ⟨h1, h2, h3, h4, h5⟩ := h
  refine ⟨h1, h2, h3, fun q hq => ?_⟩
  have := h4 q hq
  unfold partB at this
  simp only [Bool.and_eq_true, decide_eq_true_eq] at this
  exact ⟨lotB_iff.mp this.1, this.2.1, this.2.2⟩
theorem Good.sized {p : Pl} (g : Good p) : Sized p where
  n1 := g.n1
  n2 := by have := g.n6; omega
  s := by have := g.s3; omega
  q := fun s hs => (g.sh s hs).2.1
  u1 := fun s hs => (shB_ok (g.sh s hs).1).1.1
  u2 := fun s hs => (shB_ok (g.sh s hs).1).1.2
theorem Good.lot {p : Pl} (g : Good p) {l : Lot} (h : l ∈ lotsP p) : LotOk p.n l := by
  rcases (mem_lotsP p l).mp h with ⟨_, rfl⟩ | ⟨i, hi, rfl⟩ | ⟨s, hs, q, hq, rfl⟩
  · exact ok_rng g.n1
  · have := mem_rng.mp hi; exact ok_one (by omega) (by omega)
  · exact ((shB_ok (g.sh s hs).1).2.2.2 q hq).1
theorem asc_le : ∀ (l : List Int) (a n : Int), l.Pairwise (· < ·) → (∀ x ∈ l, a ≤ x ∧ x < n) → a ≤ n → (l.length : Int) ≤ n - a
  | [], a, n, _, _, h => by simp; omega
  | x :: r, a, n, h, b, _ => by
    have hx := b x List.mem_cons_self
    have ih := asc_le r (x + 1) n h.of_cons (fun y hy => by
      have h1 := List.rel_of_pairwise_cons h hy
      have h2 := b y (List.mem_cons_of_mem _ hy)
      omega) (by omega)
    simp only [List.length_cons]
    omega
theorem asc_len {l : Lot} {n : Int} (h : LotOk n l) (hn : 0 ≤ n) : (l.length : Int) ≤ n := by
  have := asc_le l 0 n h.asc h.lo hn
  omega
/-! ### ends -/
theorem E_ends (p : Pl) (N : Int) (l : Lot) (g : Good p) (hN : 1 ≤ N) (hN2 : N ≤ 100000) (hl : l ∈ lotsP p) : F_ends [plD p, .int N, lotD l] = .ok (prD (endF p N l)) := by
  have e1 := E_lookP p g
  have e2 := E_lookN (.int N) rfl
  have o := g.lot hl
  have e3 := E_lot p.n l (by have := asc_len o (by have := g.n1; omega); have := g.n6; omega)
  rw [lotB_iff.mpr o] at e3
  have e4 := E_lotsP p g.sized
  have e5 := oNinA_lot l (lotsP p)
  rw [decide_eq_true hl] at e5
  have e6 := E_ends_of p N g.sized hN hN2
  have e7 := at_ed (lotsP p) (endF p N) l hl
  have e8 : isW (.int N) 1 100000 = true := by unfold isW; simp [hN, hN2]
  rw [e8] at e2
  have a0 : oAt (plD p) (.int 0) = some (.int p.n) := rfl
  generalize plD p = v at *
  generalize edD (lotsP p) (endF p N) = dd at *
  simp only [if_true] at e2
  simp only [F_ends, g_ends, e1, e2, e3, e4, e5, e6, e7, a0, runF, List.length_cons, List.length_nil, if_true, if_false, List.map_cons, List.map_nil, List.cons_append, List.nil_append, List.replicate, sSeq, sIf, sRet, sNil, sSet, sSetN, sPar, sAsg, sFz, fz, sFor, sExpr, sRaise, sWh, rob, cOr, cAnd, cNot, cT, cTru, cB, cIf, c1, c2, cV, cVw, cK, cAndV, cOrV, cNotV, cChain, aCons, aNil, cCall, cB1, cTup, cLst, cLc, cSeqA, cRng1, cRng2, cEnum, enumO, cZip, zipO, cCut, pSome, pNo, oCut, gT, gsCons, gsNil, gN, Rs.bind, Option.bind, Option.map, ofO, cond, truD, fgt, List.foldl, List.set, lim, List.getElem?_cons_zero, List.getElem?_cons_succ, Nat.zero_add, Nat.reduceSub, Nat.reduceAdd, Nat.reduceLeDiff, Nat.reduceEqDiff, Bool.not_true, Bool.not_false, Bool.not_not, Bool.false_and, Bool.true_and, Bool.and_true, Bool.and_false, Bool.false_or, Bool.true_or, Bool.or_true, Bool.or_false, decide_true, decide_false, oNe_int, oEq_int, oEq_str, oNe_str, at20, at21, at30, at31, at32, len2, len3, isi_tup, isi_str, le_int, gt_int, lt_int, ge_int, oMax2, oMin2, gt_iff_lt, max_if, min_if, oAdd_int, oSub_int, oNeg_int, cDc, cTupRg, dec_refl, tvYes, List.isEmpty_nil, List.isEmpty_cons]
/-- the same by the law's own reckoning -/
def lE (N : Int) (l : Lot) (s : Dl.Sh) (lh : Int × Int) (q : Lot × Int) : Int × Int := if q.1 = l then (max lh.1 (loF N s.u s.w q.2), min lh.2 (hiF N s.u s.w q.2)) else lh
def lawE (p : Pl) (N : Int) (l : Lot) : Int × Int := p.ss.foldl (fun lh s => s.ps.foldl (lE N l s) lh) (if p.one = true ∧ (l.length : Int) = p.n then N else 0, N)
def lE2 (N : Int) (l : Lot) (s : Dl.Sh) (lh : Int × Int) (q : Lot × Int) : Int × Int := if q.1 = l then (max (stL N s q.2).1 lh.1, min (stL N s q.2).2 lh.2) else lh
theorem parts_at (N : Int) (l : Lot) (s : Dl.Sh) : ∀ (ps : List (Lot × Int)) (e : Lot → Int × Int), (ps.foldl (pE N s) e) l = ps.foldl (lE2 N l s) (e l)
  | [], _ => rfl
  | q :: ps, e => by
    rw [List.foldl_cons, List.foldl_cons, parts_at N l s ps]
    congr 1
    unfold pE upE lE2
    by_cases h : q.1 = l
    · subst h; simp
    · have h' : ¬ l = q.1 := fun e => h e.symm
      simp [h, h']
theorem shows_at (N : Int) (l : Lot) : ∀ (ss : List Dl.Sh) (e : Lot → Int × Int), (ss.foldl (sE N) e) l = ss.foldl (fun lh s => s.ps.foldl (lE2 N l s) lh) (e l)
  | [], _ => rfl
  | s :: ss, e => by
    rw [List.foldl_cons, List.foldl_cons, shows_at N l ss]
    congr 1
    exact parts_at N l s s.ps e
theorem lE_eq (N : Int) (l : Lot) (s : Dl.Sh) : ∀ (ps : List (Lot × Int)) (lh : Int × Int), 0 ≤ lh.1 → lh.2 ≤ N → ps.foldl (lE N l s) lh = ps.foldl (lE2 N l s) lh ∧ 0 ≤ (ps.foldl (lE2 N l s) lh).1 ∧ (ps.foldl (lE2 N l s) lh).2 ≤ N
  | [], lh, h1, h2 => ⟨rfl, h1, h2⟩
  | q :: ps, lh, h1, h2 => by
    rw [List.foldl_cons, List.foldl_cons]
    have e : lE N l s lh q = lE2 N l s lh q ∧ 0 ≤ (lE2 N l s lh q).1 ∧ (lE2 N l s lh q).2 ≤ N := by
      unfold lE lE2 stL
      split
      · refine ⟨Prod.ext ?_ ?_, ?_, ?_⟩ <;> dsimp only <;> omega
      · exact ⟨rfl, h1, h2⟩
    rw [e.1]
    exact lE_eq N l s ps _ e.2.1 e.2.2
theorem lawE_eq (p : Pl) (N : Int) (l : Lot) (g : Good p) (hN : 0 ≤ N) (hl : l ∈ lotsP p) : lawE p N l = endF p N l := by
  have s0 : e0 p N l = (if p.one = true ∧ (l.length : Int) = p.n then N else 0, N) := by
    unfold e0 upE
    cases h : p.one with
    | false => simp
    | true =>
      by_cases hq : l = rng p.n.toNat
      · have : (l.length : Int) = p.n := by rw [hq, len_rng]; have := g.n1; omega
        simp [hq, this, len_rng]
        have := g.n1; omega
      · have : ¬ (l.length : Int) = p.n := fun z => hq (full_eq (g.lot hl) z)
        simp [hq, this]
  unfold lawE endF
  rw [shows_at, s0]
  have gen : ∀ (ss : List Dl.Sh) (lh : Int × Int), 0 ≤ lh.1 → lh.2 ≤ N → ss.foldl (fun lh s => s.ps.foldl (lE N l s) lh) lh = ss.foldl (fun lh s => s.ps.foldl (lE2 N l s) lh) lh := by
    intro ss
    induction ss with
    | nil => intro lh _ _; rfl
    | cons s ss ih =>
      intro lh h1 h2
      obtain ⟨k1, k2, k3⟩ := lE_eq N l s s.ps lh h1 h2
      rw [List.foldl_cons, List.foldl_cons, k1]
      exact ih _ k2 k3
  refine gen p.ss _ ?_ (Int.le_refl _)
  dsimp only
  split <;> omega
/-- a count within the ends: each showing lets its share be -/
theorem ends_iff (p : Pl) (N : Int) (l : Lot) (c : Int) (h0 : 0 ≤ c) (hc : c ≤ N) (hN : 1 ≤ N) (hu : ∀ s ∈ p.ss, 2 ≤ s.u) :
    ((endF p N l).1 ≤ c ∧ c ≤ (endF p N l).2) ↔ (p.one = true ∧ l = rng p.n.toNat → c = N) ∧ ∀ s ∈ p.ss, ∀ q ∈ s.ps, q.1 = l → shF c N s.u s.w = q.2 := by
  unfold endF
  rw [shows_at]
  have one : ∀ (s : Dl.Sh), 2 ≤ s.u → ∀ (ps : List (Lot × Int)) (lh : Int × Int), ((ps.foldl (lE2 N l s) lh).1 ≤ c ∧ c ≤ (ps.foldl (lE2 N l s) lh).2) ↔ (lh.1 ≤ c ∧ c ≤ lh.2) ∧ ∀ q ∈ ps, q.1 = l → shF c N s.u s.w = q.2 := by
    intro s hs ps
    induction ps with
    | nil => intro lh; simp
    | cons q ps ih =>
      intro lh
      rw [List.foldl_cons, ih]
      have sh := share_iff c N s.u q.2 s.w hN hs
      have st : (lE2 N l s lh q).1 ≤ c ∧ c ≤ (lE2 N l s lh q).2 ↔ (lh.1 ≤ c ∧ c ≤ lh.2) ∧ (q.1 = l → shF c N s.u s.w = q.2) := by
        unfold lE2 stL
        by_cases hq : q.1 = l
        · simp only [hq, if_true, forall_const]
          rw [sh]
          omega
        · simp only [hq, if_false, false_implies, and_true]
      rw [st]
      constructor
      · rintro ⟨⟨h1, h2⟩, h3⟩
        exact ⟨h1, fun r hr => by
          rcases List.mem_cons.mp hr with rfl | hr
          · exact h2
          · exact h3 r hr⟩
      · rintro ⟨h1, h2⟩
        exact ⟨⟨h1, h2 q List.mem_cons_self⟩, fun r hr => h2 r (List.mem_cons_of_mem _ hr)⟩
  have all : ∀ (ss : List Dl.Sh) (lh : Int × Int), (∀ s ∈ ss, 2 ≤ s.u) → (((ss.foldl (fun lh s => s.ps.foldl (lE2 N l s) lh) lh).1 ≤ c ∧ c ≤ (ss.foldl (fun lh s => s.ps.foldl (lE2 N l s) lh) lh).2) ↔ (lh.1 ≤ c ∧ c ≤ lh.2) ∧ ∀ s ∈ ss, ∀ q ∈ s.ps, q.1 = l → shF c N s.u s.w = q.2) := by
    intro ss
    induction ss with
    | nil => intro lh _; simp
    | cons s ss ih =>
      intro lh hs
      rw [List.foldl_cons, ih _ fun t ht => hs t (List.mem_cons_of_mem _ ht), one s (hs s List.mem_cons_self)]
      constructor
      · rintro ⟨⟨h1, h2⟩, h3⟩
        exact ⟨h1, fun t ht => by
          rcases List.mem_cons.mp ht with rfl | ht
          · exact h2
          · exact h3 t ht⟩
      · rintro ⟨h1, h2⟩
        exact ⟨⟨h1, h2 s List.mem_cons_self⟩, fun t ht => h2 t (List.mem_cons_of_mem _ ht)⟩
  rw [all _ _ hu]
  refine and_congr ?_ Iff.rfl
  unfold e0 upE
  cases h : p.one with
  | false => simp; omega
  | true =>
    by_cases hq : l = rng p.n.toNat
    · simp [hq]; omega
    · simp [hq]; omega
end Sh
namespace Sh
open PySem L2 Dl
theorem lc_map {α : Type} {own : List Nat} {src : Av} {tg : Gv} {t : Tv} {f : Ev} {ρ : List Sl} (q y : α → Dt) (b : α → Bool) (xs : List α) (h0 : src ρ = .ok (xs.map q)) (hl : xs.length ≤ 16000000)
    (h : ∀ x ∈ xs, ∃ ρ1, tg (q x) (fgt own ρ) = some ρ1 ∧ t ρ1 = .ok (b x) ∧ (b x = true → f ρ1 = .ok (y x))) : cLc own src tg t f ρ = .ok (.lst ((xs.filter b).map y)) := by
  have e := goLc_map q y b xs h
  have l1 : (xs.map q).length ≤ 16000000 := by simpa using hl
  simp only [cLc, h0, Rs.bind, lim, l1, if_true, e]
theorem lc_all {α : Type} {own : List Nat} {src : Av} {tg : Gv} {f : Ev} {ρ : List Sl} (q y : α → Dt) (xs : List α) (h0 : src ρ = .ok (xs.map q)) (hl : xs.length ≤ 16000000)
    (h : ∀ x ∈ xs, ∃ ρ1, tg (q x) (fgt own ρ) = some ρ1 ∧ f ρ1 = .ok (y x)) : cLc own src tg tvYes f ρ = .ok (.lst (xs.map y)) := by
  have e := goLc_all q y xs h
  have l1 : (xs.map q).length ≤ 16000000 := by simpa using hl
  simp only [cLc, h0, Rs.bind, lim, l1, if_true, e]
/-! ### the law's ends -/
theorem neg_mul_div (t N u : Int) : -(-t * N / u) = cdiv (t * N) u := by unfold cdiv; rw [Int.neg_mul]
theorem lend_step (v : Dt) (N : Int) (l : Lot) (lh : Int × Int) (s : Dl.Sh) (pv x y : Dt) (sx sy : Sl) (q : Lot × Int) (hN : 1 ≤ N) (hN2 : N ≤ 100000) (hu : 2 ≤ s.u) (hu2 : s.u ≤ 100) :
    ∃ sx' sy', b__law_ends_1 [.va v, .va (.int N), .va (lotD l), .va (.int lh.1), .va (.int lh.2), .va (.int s.u), .va (.str s.w), .va pv, .va (lotD q.1), .va (.int q.2), sx, sy] =
      .nx [.va v, .va (.int N), .va (lotD l), .va (.int (lE N l s lh q).1), .va (.int (lE N l s lh q).2), .va (.int s.u), .va (.str s.w), .va pv, .va (lotD q.1), .va (.int q.2), sx', sy'] := by
  have e := oEq_lot q.1 l
  have a1 : 0 < s.u := by omega
  have a2 : s.u < 1073741824 := by omega
  have a3 : 0 < 2 * s.u := by omega
  have a4 : 2 * s.u < 1073741824 := by omega
  have s1 : small N = true := small_of (by omega) (by omega)
  have s2 : small 2 = true := by decide
  have k1 : ∀ t : Int, oMul (.int t) (.int N) = some (.int (t * N)) := fun t => oMul_ok (by rw [s1, Bool.or_true])
  have k2 : ∀ t : Int, oMul (.int 2) (.int t) = some (.int (2 * t)) := fun t => oMul_ok (by rw [s2, Bool.true_or])
  have d1 : ∀ t : Int, oDiv (.int t) (.int s.u) = some (.int (t / s.u)) := fun t => oDiv_ok a1 a2
  have d2 : ∀ t : Int, oDiv (.int t) (.int (2 * s.u)) = some (.int (t / (2 * s.u))) := fun t => oDiv_ok a3 a4
  unfold lE loF hiF
  by_cases h : q.1 = l
  · simp only [h, decide_true] at e
    simp only [h, if_true]
    by_cases q1 : s.w = "cut"
    · have w1 : decide (s.w = "cut") = true := decide_eq_true q1
      simp only [b__law_ends_1, sPar, e, w1, q1, if_true, k1, d1, neg_mul_div, ← Int.neg_mul, runF, List.length_cons, List.length_nil, if_true, if_false, List.map_cons, List.map_nil, List.cons_append, List.nil_append, List.replicate, sSeq, sIf, sRet, sNil, sSet, sSetN, sPar, sAsg, sFz, fz, sFor, sExpr, sRaise, sWh, rob, cOr, cAnd, cNot, cT, cTru, cB, cIf, c1, c2, cV, cVw, cK, cAndV, cOrV, cNotV, cChain, aCons, aNil, cCall, cB1, cTup, cLst, cLc, cSeqA, cRng1, cRng2, cEnum, enumO, cZip, zipO, cCut, pSome, pNo, oCut, gT, gsCons, gsNil, gN, Rs.bind, Option.bind, Option.map, ofO, cond, truD, fgt, List.foldl, List.set, lim, List.getElem?_cons_zero, List.getElem?_cons_succ, Nat.zero_add, Nat.reduceSub, Nat.reduceAdd, Nat.reduceLeDiff, Nat.reduceEqDiff, Bool.not_true, Bool.not_false, Bool.not_not, Bool.false_and, Bool.true_and, Bool.and_true, Bool.and_false, Bool.false_or, Bool.true_or, Bool.or_true, Bool.or_false, decide_true, decide_false, oNe_int, oEq_int, oEq_str, oNe_str, at20, at21, at30, at31, at32, len2, len3, isi_tup, isi_str, le_int, gt_int, lt_int, ge_int, oMax2, oMin2, gt_iff_lt, max_if, min_if, oAdd_int, oSub_int, oNeg_int, cDc, cTupRg, dec_refl, tvYes, List.isEmpty_nil, List.isEmpty_cons]
      exact ⟨_, _, rfl⟩
    · have w1 : decide (s.w = "cut") = false := decide_eq_false q1
      by_cases q2 : s.w = "up"
      · have w2 : decide (s.w = "up") = true := decide_eq_true q2
        simp only [b__law_ends_1, sPar, e, w1, w2, q1, q2, if_true, if_false, ne_uc, k1, d1, runF, List.length_cons, List.length_nil, if_true, if_false, List.map_cons, List.map_nil, List.cons_append, List.nil_append, List.replicate, sSeq, sIf, sRet, sNil, sSet, sSetN, sPar, sAsg, sFz, fz, sFor, sExpr, sRaise, sWh, rob, cOr, cAnd, cNot, cT, cTru, cB, cIf, c1, c2, cV, cVw, cK, cAndV, cOrV, cNotV, cChain, aCons, aNil, cCall, cB1, cTup, cLst, cLc, cSeqA, cRng1, cRng2, cEnum, enumO, cZip, zipO, cCut, pSome, pNo, oCut, gT, gsCons, gsNil, gN, Rs.bind, Option.bind, Option.map, ofO, cond, truD, fgt, List.foldl, List.set, lim, List.getElem?_cons_zero, List.getElem?_cons_succ, Nat.zero_add, Nat.reduceSub, Nat.reduceAdd, Nat.reduceLeDiff, Nat.reduceEqDiff, Bool.not_true, Bool.not_false, Bool.not_not, Bool.false_and, Bool.true_and, Bool.and_true, Bool.and_false, Bool.false_or, Bool.true_or, Bool.or_true, Bool.or_false, decide_true, decide_false, oNe_int, oEq_int, oEq_str, oNe_str, at20, at21, at30, at31, at32, len2, len3, isi_tup, isi_str, le_int, gt_int, lt_int, ge_int, oMax2, oMin2, gt_iff_lt, max_if, min_if, oAdd_int, oSub_int, oNeg_int, cDc, cTupRg, dec_refl, tvYes, List.isEmpty_nil, List.isEmpty_cons]
        exact ⟨_, _, rfl⟩
      · have w2 : decide (s.w = "up") = false := decide_eq_false q2
        simp only [b__law_ends_1, sPar, e, w1, w2, q1, q2, if_true, if_false, k1, k2, d2, neg_mul_div, runF, List.length_cons, List.length_nil, if_true, if_false, List.map_cons, List.map_nil, List.cons_append, List.nil_append, List.replicate, sSeq, sIf, sRet, sNil, sSet, sSetN, sPar, sAsg, sFz, fz, sFor, sExpr, sRaise, sWh, rob, cOr, cAnd, cNot, cT, cTru, cB, cIf, c1, c2, cV, cVw, cK, cAndV, cOrV, cNotV, cChain, aCons, aNil, cCall, cB1, cTup, cLst, cLc, cSeqA, cRng1, cRng2, cEnum, enumO, cZip, zipO, cCut, pSome, pNo, oCut, gT, gsCons, gsNil, gN, Rs.bind, Option.bind, Option.map, ofO, cond, truD, fgt, List.foldl, List.set, lim, List.getElem?_cons_zero, List.getElem?_cons_succ, Nat.zero_add, Nat.reduceSub, Nat.reduceAdd, Nat.reduceLeDiff, Nat.reduceEqDiff, Bool.not_true, Bool.not_false, Bool.not_not, Bool.false_and, Bool.true_and, Bool.and_true, Bool.and_false, Bool.false_or, Bool.true_or, Bool.or_true, Bool.or_false, decide_true, decide_false, oNe_int, oEq_int, oEq_str, oNe_str, at20, at21, at30, at31, at32, len2, len3, isi_tup, isi_str, le_int, gt_int, lt_int, ge_int, oMax2, oMin2, gt_iff_lt, max_if, min_if, oAdd_int, oSub_int, oNeg_int, cDc, cTupRg, dec_refl, tvYes, List.isEmpty_nil, List.isEmpty_cons]
        exact ⟨_, _, rfl⟩
  · have h' : decide (q.1 = l) = false := decide_eq_false h
    rw [h'] at e
    simp only [h, if_false]
    simp only [b__law_ends_1, e, runF, List.length_cons, List.length_nil, if_true, if_false, List.map_cons, List.map_nil, List.cons_append, List.nil_append, List.replicate, sSeq, sIf, sRet, sNil, sSet, sSetN, sPar, sAsg, sFz, fz, sFor, sExpr, sRaise, sWh, rob, cOr, cAnd, cNot, cT, cTru, cB, cIf, c1, c2, cV, cVw, cK, cAndV, cOrV, cNotV, cChain, aCons, aNil, cCall, cB1, cTup, cLst, cLc, cSeqA, cRng1, cRng2, cEnum, enumO, cZip, zipO, cCut, pSome, pNo, oCut, gT, gsCons, gsNil, gN, Rs.bind, Option.bind, Option.map, ofO, cond, truD, fgt, List.foldl, List.set, lim, List.getElem?_cons_zero, List.getElem?_cons_succ, Nat.zero_add, Nat.reduceSub, Nat.reduceAdd, Nat.reduceLeDiff, Nat.reduceEqDiff, Bool.not_true, Bool.not_false, Bool.not_not, Bool.false_and, Bool.true_and, Bool.and_true, Bool.and_false, Bool.false_or, Bool.true_or, Bool.or_true, Bool.or_false, decide_true, decide_false, oNe_int, oEq_int, oEq_str, oNe_str, at20, at21, at30, at31, at32, len2, len3, isi_tup, isi_str, le_int, gt_int, lt_int, ge_int, oMax2, oMin2, gt_iff_lt, max_if, min_if, oAdd_int, oSub_int, oNeg_int, cDc, cTupRg, dec_refl, tvYes, List.isEmpty_nil, List.isEmpty_cons]
    exact ⟨_, _, rfl⟩
theorem lend_loop (v : Dt) (N : Int) (l : Lot) (lh : Int × Int) (s : Dl.Sh) (hN : 1 ≤ N) (hN2 : N ≤ 100000) (hu : 2 ≤ s.u) (hu2 : s.u ≤ 100) :
    b__law_ends_2 [.va v, .va (.int N), .va (lotD l), .va (.int lh.1), .va (.int lh.2), .va (.int s.u), .va (.str s.w), .va (.tup (s.ps.map ptD)), .no, .no, .no, .no] =
      .nx [.va v, .va (.int N), .va (lotD l), .va (.int (s.ps.foldl (lE N l s) lh).1), .va (.int (s.ps.foldl (lE N l s) lh).2), .va (.int s.u), .va (.str s.w), .va (.tup (s.ps.map ptD)), .no, .no, .no, .no] := by
  refine (goFor_fold ptD (fun lh : Int × Int => [.va v, .va (.int N), .va (lotD l), .va (.int lh.1), .va (.int lh.2), .va (.int s.u), .va (.str s.w), .va (.tup (s.ps.map ptD)), .no, .no, .no, .no]) (lE N l s) (fun _ => True) s.ps lh trivial ?_).1
  intro lh q hq _
  obtain ⟨sx', sy', h⟩ := lend_step v N l lh s (.tup (s.ps.map ptD)) .non .non .no .no q hN hN2 hu hu2
  exact ⟨trivial, _, _, rfl, h, rfl⟩
theorem E_lawends (p : Pl) (N : Int) (l : Lot) (z : Sized p) (hN : 1 ≤ N) (hN2 : N ≤ 100000) : F__law_ends [plD p, .int N, lotD l] = .ok (prD (lawE p N l)) := by
  have e1 : ∀ lh : Int × Int, goFor (gT (gsCons (gN 5) (gsCons (gN 6) (gsCons (gN 7) gsNil)))) [5, 6, 7, 8, 9, 10, 11] b__law_ends_2 (p.ss.map shD) [.va (plD p), .va (.int N), .va (lotD l), .va (.int lh.1), .va (.int lh.2), .no, .no, .no, .no, .no, .no, .no] =
      .nx [.va (plD p), .va (.int N), .va (lotD l), .va (.int (p.ss.foldl (fun lh s => s.ps.foldl (lE N l s) lh) lh).1), .va (.int (p.ss.foldl (fun lh s => s.ps.foldl (lE N l s) lh) lh).2), .no, .no, .no, .no, .no, .no, .no] := fun lh => by
    refine (goFor_fold shD (fun lh : Int × Int => [.va (plD p), .va (.int N), .va (lotD l), .va (.int lh.1), .va (.int lh.2), .no, .no, .no, .no, .no, .no, .no]) (fun lh s => s.ps.foldl (lE N l s) lh) (fun _ => True) p.ss lh trivial ?_).1
    intro lh s hs _
    exact ⟨trivial, _, _, rfl, lend_loop (plD p) N l lh s hN hN2 (z.u1 s hs) (z.u2 s hs), rfl⟩
  have a0 : oAt (plD p) (.int 0) = some (.int p.n) := rfl
  have a1 : oAt (plD p) (.int 1) = some (.str (kindS p.one)) := rfl
  have a2 : oAt (plD p) (.int 2) = some (.tup (p.ss.map shD)) := rfl
  have a3 : decide (kindS p.one = "one") = p.one := by cases p.one <;> decide +kernel
  have n1 := len_lot l
  unfold lawE prD
  generalize plD p = v at *
  generalize ((l.length : Nat) : Int) = m at *
  have e2 := e1 (0, N)
  have e3 := e1 (N, N)
  dsimp only at e2 e3
  cases h : p.one <;> rw [h] at a3 a1
  · simp only [Bool.false_eq_true, false_and, if_false]
    simp only [F__law_ends, g__law_ends, sPar, a0, a1, a2, a3, e2, runF, List.length_cons, List.length_nil, if_true, if_false, List.map_cons, List.map_nil, List.cons_append, List.nil_append, List.replicate, sSeq, sIf, sRet, sNil, sSet, sSetN, sPar, sAsg, sFz, fz, sFor, sExpr, sRaise, sWh, rob, cOr, cAnd, cNot, cT, cTru, cB, cIf, c1, c2, cV, cVw, cK, cAndV, cOrV, cNotV, cChain, aCons, aNil, cCall, cB1, cTup, cLst, cLc, cSeqA, cRng1, cRng2, cEnum, enumO, cZip, zipO, cCut, pSome, pNo, oCut, gT, gsCons, gsNil, gN, Rs.bind, Option.bind, Option.map, ofO, cond, truD, fgt, List.foldl, List.set, lim, List.getElem?_cons_zero, List.getElem?_cons_succ, Nat.zero_add, Nat.reduceSub, Nat.reduceAdd, Nat.reduceLeDiff, Nat.reduceEqDiff, Bool.not_true, Bool.not_false, Bool.not_not, Bool.false_and, Bool.true_and, Bool.and_true, Bool.and_false, Bool.false_or, Bool.true_or, Bool.or_true, Bool.or_false, decide_true, decide_false, oNe_int, oEq_int, oEq_str, oNe_str, at20, at21, at30, at31, at32, len2, len3, isi_tup, isi_str, le_int, gt_int, lt_int, ge_int, oMax2, oMin2, gt_iff_lt, max_if, min_if, oAdd_int, oSub_int, oNeg_int, cDc, cTupRg, dec_refl, tvYes, List.isEmpty_nil, List.isEmpty_cons]
  · by_cases hm : m = p.n
    · simp only [hm, and_self, if_true, true_and]
      have d1 : decide (m = p.n) = true := decide_eq_true hm
      simp only [F__law_ends, g__law_ends, sPar, a0, a1, a2, a3, n1, d1, e3, runF, List.length_cons, List.length_nil, if_true, if_false, List.map_cons, List.map_nil, List.cons_append, List.nil_append, List.replicate, sSeq, sIf, sRet, sNil, sSet, sSetN, sPar, sAsg, sFz, fz, sFor, sExpr, sRaise, sWh, rob, cOr, cAnd, cNot, cT, cTru, cB, cIf, c1, c2, cV, cVw, cK, cAndV, cOrV, cNotV, cChain, aCons, aNil, cCall, cB1, cTup, cLst, cLc, cSeqA, cRng1, cRng2, cEnum, enumO, cZip, zipO, cCut, pSome, pNo, oCut, gT, gsCons, gsNil, gN, Rs.bind, Option.bind, Option.map, ofO, cond, truD, fgt, List.foldl, List.set, lim, List.getElem?_cons_zero, List.getElem?_cons_succ, Nat.zero_add, Nat.reduceSub, Nat.reduceAdd, Nat.reduceLeDiff, Nat.reduceEqDiff, Bool.not_true, Bool.not_false, Bool.not_not, Bool.false_and, Bool.true_and, Bool.and_true, Bool.and_false, Bool.false_or, Bool.true_or, Bool.or_true, Bool.or_false, decide_true, decide_false, oNe_int, oEq_int, oEq_str, oNe_str, at20, at21, at30, at31, at32, len2, len3, isi_tup, isi_str, le_int, gt_int, lt_int, ge_int, oMax2, oMin2, gt_iff_lt, max_if, min_if, oAdd_int, oSub_int, oNeg_int, cDc, cTupRg, dec_refl, tvYes, List.isEmpty_nil, List.isEmpty_cons]
    · simp only [hm, and_false, if_false, true_and]
      have d1 : decide (m = p.n) = false := decide_eq_false hm
      simp only [F__law_ends, g__law_ends, sPar, a0, a1, a2, a3, n1, d1, e2, runF, List.length_cons, List.length_nil, if_true, if_false, List.map_cons, List.map_nil, List.cons_append, List.nil_append, List.replicate, sSeq, sIf, sRet, sNil, sSet, sSetN, sPar, sAsg, sFz, fz, sFor, sExpr, sRaise, sWh, rob, cOr, cAnd, cNot, cT, cTru, cB, cIf, c1, c2, cV, cVw, cK, cAndV, cOrV, cNotV, cChain, aCons, aNil, cCall, cB1, cTup, cLst, cLc, cSeqA, cRng1, cRng2, cEnum, enumO, cZip, zipO, cCut, pSome, pNo, oCut, gT, gsCons, gsNil, gN, Rs.bind, Option.bind, Option.map, ofO, cond, truD, fgt, List.foldl, List.set, lim, List.getElem?_cons_zero, List.getElem?_cons_succ, Nat.zero_add, Nat.reduceSub, Nat.reduceAdd, Nat.reduceLeDiff, Nat.reduceEqDiff, Bool.not_true, Bool.not_false, Bool.not_not, Bool.false_and, Bool.true_and, Bool.and_true, Bool.and_false, Bool.false_or, Bool.true_or, Bool.or_true, Bool.or_false, decide_true, decide_false, oNe_int, oEq_int, oEq_str, oNe_str, at20, at21, at30, at31, at32, len2, len3, isi_tup, isi_str, le_int, gt_int, lt_int, ge_int, oMax2, oMin2, gt_iff_lt, max_if, min_if, oAdd_int, oSub_int, oNeg_int, cDc, cTupRg, dec_refl, tvYes, List.isEmpty_nil, List.isEmpty_cons]
/-! ### the law's lots -/
theorem sameA_nums : ∀ a b : List Int, sameA (a.map SK.num) (b.map SK.num) = true
  | [], _ => by simp [sameA]
  | _ :: _, [] => by simp [sameA]
  | x :: a, y :: b => by simp [sameA, sameK, sameA_nums a b]
theorem dpA_nums : ∀ a : List Int, dpA (a.map SK.num) = 0
  | [] => by simp [dpA]
  | x :: a => by simp [dpA, dpK, dpA_nums a]
theorem okR_lots (ls : List Lot) : okR (ls.map kSK) = true := by
  unfold okR
  simp only [Bool.and_eq_true, List.all_eq_true, List.mem_map]
  refine ⟨⟨?_, ?_⟩, ?_⟩
  · rintro _ ⟨l, _, rfl⟩; rfl
  · rintro _ ⟨l, _, rfl⟩ _ ⟨m, _, rfl⟩
    simp [kSK, sameK, sameA, sameA_nums]
  · rintro _ ⟨l, _, rfl⟩
    simp [kSK, dpK, dpA, dpA_nums]
theorem skA_nums : ∀ a : List Int, skA (a.map Dt.int) = some (a.map SK.num)
  | [] => by simp [skA]
  | x :: a => by simp [skA, skD, skA_nums a]
def llD (l : Lot) : Dt := .tup [.int l.length, lotD l]
theorem skA_lls : ∀ ls : List Lot, skA (ls.map llD) = some (ls.map kSK)
  | [] => by simp [skA]
  | l :: ls => by simp [skA, skD, skA_nums, skA_lls ls, llD, lotD, kSK]
theorem dtA_nums : ∀ a : List Int, dtA (a.map SK.num) = a.map Dt.int
  | [] => by simp [dtA]
  | x :: a => by simp [dtA, dtS, dtA_nums a]
theorem dtA_lls : ∀ ls : List Lot, dtA (ls.map kSK) = ls.map llD
  | [] => by simp [dtA]
  | l :: ls => by simp [dtA, dtS, dtA_nums, dtA_lls ls, llD, lotD, kSK]
theorem sort_lls (ls ms : List Lot) (hl : ls.length < 64) (hn : ms.Nodup) (hm : ∀ l, l ∈ ms ↔ l ∈ ls) (hs : SrtO.Srtd ltLot ms) : oSortSet (.lst (ls.map llD)) = some (.lst (ms.map llD)) := by
  have e : ms.map kSK = ssK (ls.map kSK) := by
    refine ss_uniq (hn.map kSK fun a b ne q => ?_) (fun k => ?_) ?_
    · refine ne ?_
      unfold kSK at q
      injection q with q
      injection q with _ q
      injection q with q _
      injection q with q
      exact map_num_inj q
    · simp only [List.mem_map]
      exact ⟨fun ⟨l, h, e⟩ => ⟨l, (hm l).mp h, e⟩, fun ⟨l, h, e⟩ => ⟨l, (hm l).mpr h, e⟩⟩
    · exact List.pairwise_map.mpr hs
  show (skAll (ls.map llD)).map (fun ks => Dt.lst (dtA (ssK ks))) = _
  unfold skAll
  rw [skA_lls]
  simp only [Option.bind_some, okR_lots, List.length_map, hl, decide_true, Bool.and_self, if_true, Option.map_some]
  rw [← e, dtA_lls]
theorem srtd_lotsP (p : Pl) : SrtO.Srtd ltLot (lotsP p) := srtB_srtd swo_lot _
/-- found so far, in the law's order -/
def lotsL (p : Pl) : List Lot := p.ss.foldl (fun ls s => ls ++ s.ps.map (·.1)) ((rng p.n.toNat).map (fun i => [i]) ++ if p.one then [rng p.n.toNat] else [])
theorem mem_lotsL (p : Pl) (x : Lot) : x ∈ lotsL p ↔ x ∈ lotsP p := by
  rw [mem_lotsP]
  unfold lotsL
  have gen : ∀ (ss : List Dl.Sh) (ls : List Lot), x ∈ ss.foldl (fun ls s => ls ++ s.ps.map (·.1)) ls ↔ x ∈ ls ∨ ∃ s ∈ ss, ∃ q ∈ s.ps, q.1 = x := by
    intro ss
    induction ss with
    | nil => intro ls; simp
    | cons s ss ih =>
      intro ls
      rw [List.foldl_cons, ih, List.mem_append, List.mem_map]
      constructor
      · rintro ((h | h) | ⟨t, ht, h⟩)
        · exact .inl h
        · exact .inr ⟨s, List.mem_cons_self, h⟩
        · exact .inr ⟨t, List.mem_cons_of_mem _ ht, h⟩
      · rintro (h | ⟨t, ht, h⟩)
        · exact .inl (.inl h)
        · rcases List.mem_cons.mp ht with rfl | ht
          · exact .inl (.inr h)
          · exact .inr ⟨t, ht, h⟩
  rw [gen, List.mem_append, List.mem_map]
  have e : x ∈ (if p.one = true then [rng p.n.toNat] else []) ↔ p.one = true ∧ x = rng p.n.toNat := by cases p.one <;> simp
  rw [e]
  constructor
  · rintro ((⟨i, hi, rfl⟩ | h) | h)
    · exact .inr (.inl ⟨i, hi, rfl⟩)
    · exact .inl h
    · exact .inr (.inr h)
  · rintro (h | ⟨i, hi, rfl⟩ | h)
    · exact .inl (.inr h)
    · exact .inl (.inl ⟨i, hi, rfl⟩)
    · exact .inr h
theorem lawlots_loop (v : Dt) (ss : List Dl.Sh) (ls : List Lot) (hq : ∀ s ∈ ss, s.ps.length ≤ 1000) (hs : ss.length ≤ 1000) (hl : ls.length ≤ 2000) :
    goFor (gT (gsCons (gN 2) (gsCons (gN 3) (gsCons (gN 4) gsNil)))) [2, 3, 4] b__law_lots_3 (ss.map shD) [.va v, .ow (.lst (ls.map lotD)), .no, .no, .no, .no, .no, .no, .no] =
      .nx [.va v, .ow (.lst ((ss.foldl (fun ls s => ls ++ s.ps.map (·.1)) ls).map lotD)), .no, .no, .no, .no, .no, .no, .no] := by
  refine (goFor_foldN shD (fun ls : List Lot => [.va v, .ow (.lst (ls.map lotD)), .no, .no, .no, .no, .no, .no, .no]) (fun ls s => ls ++ s.ps.map (·.1)) (fun k ls => ls.length ≤ 2000 + 1000 * k) ss.length ss 0 ls (by omega) hl ?_).1
  intro k ls s hm hk hi
  have h1 := hq s hm
  have e : e__law_lots_2 [.va v, .ow (.lst (ls.map lotD)), .va (.int s.u), .va (.str s.w), .va (.tup (s.ps.map ptD)), .no, .no, .no, .no] = .ok (.lst ((s.ps.map (·.1)).map lotD)) := by
    unfold e__law_lots_2
    rw [List.map_map]
    exact lc_all ptD (lotD ∘ (·.1)) s.ps rfl (by omega) fun q hq => ⟨_, rfl, rfl⟩
  refine ⟨by simp only [List.length_append, List.length_map]; omega, [.va v, .ow (.lst (ls.map lotD)), .va (.int s.u), .va (.str s.w), .va (.tup (s.ps.map ptD)), .no, .no, .no, .no], [.va v, .ow (.lst ((ls ++ s.ps.map (·.1)).map lotD)), .va (.int s.u), .va (.str s.w), .va (.tup (s.ps.map ptD)), .no, .no, .no, .no], rfl, ?_, rfl⟩
  have l1 : (ls.map lotD).length + ((s.ps.map (·.1)).map lotD).length ≤ 16000000 := by simp; omega
  rw [List.map_append]
  generalize ((s.ps.map (·.1)).map lotD) = ys at *
  generalize ls.map lotD = xs at *
  simp only [b__law_lots_3, e, oCat, l1, runF, List.length_cons, List.length_nil, if_true, if_false, List.map_cons, List.map_nil, List.cons_append, List.nil_append, List.replicate, sSeq, sIf, sRet, sNil, sSet, sSetN, sPar, sAsg, sFz, fz, sFor, sExpr, sRaise, sWh, rob, cOr, cAnd, cNot, cT, cTru, cB, cIf, c1, c2, cV, cVw, cK, cAndV, cOrV, cNotV, cChain, aCons, aNil, cCall, cB1, cTup, cLst, cLc, cSeqA, cRng1, cRng2, cEnum, enumO, cZip, zipO, cCut, pSome, pNo, oCut, gT, gsCons, gsNil, gN, Rs.bind, Option.bind, Option.map, ofO, cond, truD, fgt, List.foldl, List.set, lim, List.getElem?_cons_zero, List.getElem?_cons_succ, Nat.zero_add, Nat.reduceSub, Nat.reduceAdd, Nat.reduceLeDiff, Nat.reduceEqDiff, Bool.not_true, Bool.not_false, Bool.not_not, Bool.false_and, Bool.true_and, Bool.and_true, Bool.and_false, Bool.false_or, Bool.true_or, Bool.or_true, Bool.or_false, decide_true, decide_false, oNe_int, oEq_int, oEq_str, oNe_str, at20, at21, at30, at31, at32, len2, len3, isi_tup, isi_str, le_int, gt_int, lt_int, ge_int, oMax2, oMin2, gt_iff_lt, max_if, min_if, oAdd_int, oSub_int, oNeg_int, cDc, cTupRg, dec_refl, tvYes, List.isEmpty_nil, List.isEmpty_cons]
theorem E_lawlots (p : Pl) (z : Sized p) (h64 : (lotsL p).length < 64) : F__law_lots [plD p] = .ok (.lst ((lotsP p).map lotD)) := by
  have n1 := z.n1
  have n2 := z.n2
  have rl := len_rng p.n.toNat
  have r2 : rngD 0 p.n.toNat = (rng p.n.toNat).map Dt.int := rngD_map _
  have r1 : inR p.n = true := inR_of (by omega) (by omega)
  have a0 : oAt (plD p) (.int 0) = some (.int p.n) := rfl
  have a1 : oAt (plD p) (.int 1) = some (.str (kindS p.one)) := rfl
  have a2 : oAt (plD p) (.int 2) = some (.tup (p.ss.map shD)) := rfl
  have a3 : decide (kindS p.one = "one") = p.one := by cases p.one <;> decide +kernel
  have e1 : e__law_lots_1 [.va (plD p), .no, .no, .no, .no, .no, .no, .no, .no] = .ok (.lst (((rng p.n.toNat).map fun i => [i]).map lotD)) := by
    unfold e__law_lots_1
    rw [List.map_map]
    refine lc_all Dt.int (lotD ∘ fun i => [i]) (rng p.n.toNat) ?_ (by omega) fun i hi => ⟨_, rfl, rfl⟩
    generalize plD p = v at *
    simp only [a0, r1, r2, runF, List.length_cons, List.length_nil, if_true, if_false, List.map_cons, List.map_nil, List.cons_append, List.nil_append, List.replicate, sSeq, sIf, sRet, sNil, sSet, sSetN, sPar, sAsg, sFz, fz, sFor, sExpr, sRaise, sWh, rob, cOr, cAnd, cNot, cT, cTru, cB, cIf, c1, c2, cV, cVw, cK, cAndV, cOrV, cNotV, cChain, aCons, aNil, cCall, cB1, cTup, cLst, cLc, cSeqA, cRng1, cRng2, cEnum, enumO, cZip, zipO, cCut, pSome, pNo, oCut, gT, gsCons, gsNil, gN, Rs.bind, Option.bind, Option.map, ofO, cond, truD, fgt, List.foldl, List.set, lim, List.getElem?_cons_zero, List.getElem?_cons_succ, Nat.zero_add, Nat.reduceSub, Nat.reduceAdd, Nat.reduceLeDiff, Nat.reduceEqDiff, Bool.not_true, Bool.not_false, Bool.not_not, Bool.false_and, Bool.true_and, Bool.and_true, Bool.and_false, Bool.false_or, Bool.true_or, Bool.or_true, Bool.or_false, decide_true, decide_false, oNe_int, oEq_int, oEq_str, oNe_str, at20, at21, at30, at31, at32, len2, len3, isi_tup, isi_str, le_int, gt_int, lt_int, ge_int, oMax2, oMin2, gt_iff_lt, max_if, min_if, oAdd_int, oSub_int, oNeg_int, cDc, cTupRg, dec_refl, tvYes, List.isEmpty_nil, List.isEmpty_cons]
  have e2 := lawlots_loop (plD p) p.ss ((rng p.n.toNat).map (fun i => [i]) ++ if p.one then [rng p.n.toNat] else []) z.q z.s (by simp only [List.length_append, List.length_map, rl]; split <;> simp <;> omega)
  have e4 : e__law_lots_4 [.va (plD p), .va (.lst ((lotsL p).map lotD)), .no, .no, .no, .no, .no, .no, .no] = .ok (.lst ((lotsL p).map llD)) := by
    unfold e__law_lots_4
    refine lc_all lotD llD (lotsL p) rfl (by omega) fun l hl => ⟨_, rfl, ?_⟩
    have n := len_lot l
    unfold llD
    generalize lotD l = w at *
    generalize ((l.length : Nat) : Int) = m at *
    simp only [n, runF, List.length_cons, List.length_nil, if_true, if_false, List.map_cons, List.map_nil, List.cons_append, List.nil_append, List.replicate, sSeq, sIf, sRet, sNil, sSet, sSetN, sPar, sAsg, sFz, fz, sFor, sExpr, sRaise, sWh, rob, cOr, cAnd, cNot, cT, cTru, cB, cIf, c1, c2, cV, cVw, cK, cAndV, cOrV, cNotV, cChain, aCons, aNil, cCall, cB1, cTup, cLst, cLc, cSeqA, cRng1, cRng2, cEnum, enumO, cZip, zipO, cCut, pSome, pNo, oCut, gT, gsCons, gsNil, gN, Rs.bind, Option.bind, Option.map, ofO, cond, truD, fgt, List.foldl, List.set, lim, List.getElem?_cons_zero, List.getElem?_cons_succ, Nat.zero_add, Nat.reduceSub, Nat.reduceAdd, Nat.reduceLeDiff, Nat.reduceEqDiff, Bool.not_true, Bool.not_false, Bool.not_not, Bool.false_and, Bool.true_and, Bool.and_true, Bool.and_false, Bool.false_or, Bool.true_or, Bool.or_true, Bool.or_false, decide_true, decide_false, oNe_int, oEq_int, oEq_str, oNe_str, at20, at21, at30, at31, at32, len2, len3, isi_tup, isi_str, le_int, gt_int, lt_int, ge_int, oMax2, oMin2, gt_iff_lt, max_if, min_if, oAdd_int, oSub_int, oNeg_int, cDc, cTupRg, dec_refl, tvYes, List.isEmpty_nil, List.isEmpty_cons]
  have e3 := sort_lls (lotsL p) (lotsP p) h64 (nodup_lotsP p) (fun l => (mem_lotsL p l).symm) (srtd_lotsP p)
  have ln := len_lotsP p z
  have e5 : e__law_lots_5 [.va (plD p), .va (.lst ((lotsL p).map lotD)), .no, .no, .no, .no, .no, .no, .no] = .ok (.lst ((lotsP p).map lotD)) := by
    unfold e__law_lots_5
    refine lc_all llD lotD (lotsP p) ?_ (by omega) fun l hl => ⟨_, rfl, rfl⟩
    simp only [e4, e3, runF, List.length_cons, List.length_nil, if_true, if_false, List.map_cons, List.map_nil, List.cons_append, List.nil_append, List.replicate, sSeq, sIf, sRet, sNil, sSet, sSetN, sPar, sAsg, sFz, fz, sFor, sExpr, sRaise, sWh, rob, cOr, cAnd, cNot, cT, cTru, cB, cIf, c1, c2, cV, cVw, cK, cAndV, cOrV, cNotV, cChain, aCons, aNil, cCall, cB1, cTup, cLst, cLc, cSeqA, cRng1, cRng2, cEnum, enumO, cZip, zipO, cCut, pSome, pNo, oCut, gT, gsCons, gsNil, gN, Rs.bind, Option.bind, Option.map, ofO, cond, truD, fgt, List.foldl, List.set, lim, List.getElem?_cons_zero, List.getElem?_cons_succ, Nat.zero_add, Nat.reduceSub, Nat.reduceAdd, Nat.reduceLeDiff, Nat.reduceEqDiff, Bool.not_true, Bool.not_false, Bool.not_not, Bool.false_and, Bool.true_and, Bool.and_true, Bool.and_false, Bool.false_or, Bool.true_or, Bool.or_true, Bool.or_false, decide_true, decide_false, oNe_int, oEq_int, oEq_str, oNe_str, at20, at21, at30, at31, at32, len2, len3, isi_tup, isi_str, le_int, gt_int, lt_int, ge_int, oMax2, oMin2, gt_iff_lt, max_if, min_if, oAdd_int, oSub_int, oNeg_int, cDc, cTupRg, dec_refl, tvYes, List.isEmpty_nil, List.isEmpty_cons]
  have e6 : sApp 1 (cTupRg (c2 oAt (cVw 0) (cK (.int 0)))) [.va (plD p), .ow (.lst (((rng p.n.toNat).map fun i => [i]).map lotD)), .no, .no, .no, .no, .no, .no, .no] =
      .nx [.va (plD p), .ow (.lst (((rng p.n.toNat).map (fun i => [i]) ++ [rng p.n.toNat]).map lotD)), .no, .no, .no, .no, .no, .no, .no] := by
    have r3 : oRng (.int p.n) = some ((rng p.n.toNat).map Dt.int) := by
      rw [← r2]
      exact if_pos (by rw [Bool.and_eq_true]; exact ⟨decide_eq_true (by omega), decide_eq_true (by omega)⟩)
    have r4 : lotD (rng p.n.toNat) = .tup ((rng p.n.toNat).map Dt.int) := rfl
    have l1 : (((rng p.n.toNat).map fun i => [i]).map lotD).length ≤ 16000000 := by simp only [List.length_map, rl]; omega
    rw [List.map_append, List.map_cons, List.map_nil]
    generalize ((rng p.n.toNat).map fun i => [i]).map lotD = xs at *
    generalize plD p = v at *
    simp only [sApp, a0, r3, r4, l1, runF, List.length_cons, List.length_nil, if_true, if_false, List.map_cons, List.map_nil, List.cons_append, List.nil_append, List.replicate, sSeq, sIf, sRet, sNil, sSet, sSetN, sPar, sAsg, sFz, fz, sFor, sExpr, sRaise, sWh, rob, cOr, cAnd, cNot, cT, cTru, cB, cIf, c1, c2, cV, cVw, cK, cAndV, cOrV, cNotV, cChain, aCons, aNil, cCall, cB1, cTup, cLst, cLc, cSeqA, cRng1, cRng2, cEnum, enumO, cZip, zipO, cCut, pSome, pNo, oCut, gT, gsCons, gsNil, gN, Rs.bind, Option.bind, Option.map, ofO, cond, truD, fgt, List.foldl, List.set, lim, List.getElem?_cons_zero, List.getElem?_cons_succ, Nat.zero_add, Nat.reduceSub, Nat.reduceAdd, Nat.reduceLeDiff, Nat.reduceEqDiff, Bool.not_true, Bool.not_false, Bool.not_not, Bool.false_and, Bool.true_and, Bool.and_true, Bool.and_false, Bool.false_or, Bool.true_or, Bool.or_true, Bool.or_false, decide_true, decide_false, oNe_int, oEq_int, oEq_str, oNe_str, at20, at21, at30, at31, at32, len2, len3, isi_tup, isi_str, le_int, gt_int, lt_int, ge_int, oMax2, oMin2, gt_iff_lt, max_if, min_if, oAdd_int, oSub_int, oNeg_int, cDc, cTupRg, dec_refl, tvYes, List.isEmpty_nil, List.isEmpty_cons]
  have ef : lotsL p = p.ss.foldl (fun ls s => ls ++ s.ps.map (·.1)) ((rng p.n.toNat).map (fun i => [i]) ++ if p.one then [rng p.n.toNat] else []) := rfl
  rw [← ef] at e2
  generalize plD p = v at *
  generalize (lotsL p).map lotD = out at *
  generalize (lotsP p).map lotD = out2 at *
  cases h : p.one <;> rw [h] at a3 a1 e2
  · simp only [Bool.false_eq_true, if_false, List.append_nil] at e2
    simp only [F__law_lots, g__law_lots, a1, a2, a3, e1, e2, e5, runF, List.length_cons, List.length_nil, if_true, if_false, List.map_cons, List.map_nil, List.cons_append, List.nil_append, List.replicate, sSeq, sIf, sRet, sNil, sSet, sSetN, sPar, sAsg, sFz, fz, sFor, sExpr, sRaise, sWh, rob, cOr, cAnd, cNot, cT, cTru, cB, cIf, c1, c2, cV, cVw, cK, cAndV, cOrV, cNotV, cChain, aCons, aNil, cCall, cB1, cTup, cLst, cLc, cSeqA, cRng1, cRng2, cEnum, enumO, cZip, zipO, cCut, pSome, pNo, oCut, gT, gsCons, gsNil, gN, Rs.bind, Option.bind, Option.map, ofO, cond, truD, fgt, List.foldl, List.set, lim, List.getElem?_cons_zero, List.getElem?_cons_succ, Nat.zero_add, Nat.reduceSub, Nat.reduceAdd, Nat.reduceLeDiff, Nat.reduceEqDiff, Bool.not_true, Bool.not_false, Bool.not_not, Bool.false_and, Bool.true_and, Bool.and_true, Bool.and_false, Bool.false_or, Bool.true_or, Bool.or_true, Bool.or_false, decide_true, decide_false, oNe_int, oEq_int, oEq_str, oNe_str, at20, at21, at30, at31, at32, len2, len3, isi_tup, isi_str, le_int, gt_int, lt_int, ge_int, oMax2, oMin2, gt_iff_lt, max_if, min_if, oAdd_int, oSub_int, oNeg_int, cDc, cTupRg, dec_refl, tvYes, List.isEmpty_nil, List.isEmpty_cons]
  · simp only [if_true] at e2
    simp only [F__law_lots, g__law_lots, a1, a2, a3, e1, e2, e5, e6, runF, List.length_cons, List.length_nil, if_true, if_false, List.map_cons, List.map_nil, List.cons_append, List.nil_append, List.replicate, sSeq, sIf, sRet, sNil, sSet, sSetN, sPar, sAsg, sFz, fz, sFor, sExpr, sRaise, sWh, rob, cOr, cAnd, cNot, cT, cTru, cB, cIf, c1, c2, cV, cVw, cK, cAndV, cOrV, cNotV, cChain, aCons, aNil, cCall, cB1, cTup, cLst, cLc, cSeqA, cRng1, cRng2, cEnum, enumO, cZip, zipO, cCut, pSome, pNo, oCut, gT, gsCons, gsNil, gN, Rs.bind, Option.bind, Option.map, ofO, cond, truD, fgt, List.foldl, List.set, lim, List.getElem?_cons_zero, List.getElem?_cons_succ, Nat.zero_add, Nat.reduceSub, Nat.reduceAdd, Nat.reduceLeDiff, Nat.reduceEqDiff, Bool.not_true, Bool.not_false, Bool.not_not, Bool.false_and, Bool.true_and, Bool.and_true, Bool.and_false, Bool.false_or, Bool.true_or, Bool.or_true, Bool.or_false, decide_true, decide_false, oNe_int, oEq_int, oEq_str, oNe_str]
end Sh
namespace Sh
open PySem L2 Dl
/-! ### loops that end somewhere -/
theorem goFor_inv {α σ : Type} {tg : Gv} {fg : List Nat} {body : Sv} (q : α → Dt) (st : σ → List Sl) (I : Nat → σ → Prop) : ∀ (xs : List α) (k : Nat) (s : σ), I k s →
    (∀ (i : Nat) s x, xs[i]? = some x → I (k + i) s → ∃ s', I (k + i + 1) s' ∧ ∃ ρ1 ρ2, tg (q x) (st s) = some ρ1 ∧ body ρ1 = .nx ρ2 ∧ fgt fg ρ2 = st s') →
    ∃ s', goFor tg fg body (xs.map q) (st s) = .nx (st s') ∧ I (k + xs.length) s'
  | [], k, s, hi, _ => ⟨s, rfl, hi⟩
  | x :: xs, k, s, hi, h => by
    obtain ⟨s1, hi1, ρ1, ρ2, h1, h2, h3⟩ := h 0 s x rfl hi
    obtain ⟨s', e, hi'⟩ := goFor_inv q st I xs (k + 1) s1 hi1 fun i s y hy hs => by
      have := h (i + 1) s y (by simpa using hy) (by have e : k + (i + 1) = k + 1 + i := by omega
                                                    rw [e]; exact hs)
      have e : k + 1 + i + 1 = k + (i + 1) + 1 := by omega
      rw [e]; exact this
    refine ⟨s', by rw [List.map_cons, goFor_step h1 h2, h3]; exact e, ?_⟩
    have e2 : k + (x :: xs).length = k + 1 + xs.length := by show k + (xs.length + 1) = _; omega
    rw [e2]; exact hi'
theorem row_at {row : List Int} (hl : row.length = 60) (k : Int) : oAt (.lst (row.map Dt.int)) (.int (k % 60)) = some (.int (at0 row (k % 60))) :=
  atI_map (Int.emod_nonneg _ (by decide)) (by rw [hl]; exact Int.emod_lt_of_pos _ (by decide))
theorem row_at' {row : List Int} (hl : row.length = 60) (k : Int) (h0 : 0 ≤ k) (h1 : k < 60) : oAt (.lst (row.map Dt.int)) (.int k) = some (.int (at0 row k)) :=
  atI_map h0 (by rw [hl]; exact h1)
theorem row_nn {row : List Int} (hb : ∀ v ∈ row, 0 ≤ v ∧ v < 1000) (k : Int) : 0 ≤ at0 row k := by
  unfold at0
  by_cases h : k.toNat < row.length
  · simp only [List.getD, List.getElem?_eq_getElem h, Option.getD_some]
    exact (hb _ (List.getElem_mem h)).1
  · simp only [List.getD, List.getElem?_eq_none (Nat.le_of_not_lt h), Option.getD_none]; omega
theorem row_lt {row : List Int} (hb : ∀ v ∈ row, 0 ≤ v ∧ v < 1000) (k : Int) : at0 row k < 1000 := by
  unfold at0
  by_cases h : k.toNat < row.length
  · simp only [List.getD, List.getElem?_eq_getElem h, Option.getD_some]
    exact (hb _ (List.getElem_mem h)).2
  · simp only [List.getD, List.getElem?_eq_none (Nat.le_of_not_lt h), Option.getD_none]; omega
theorem oMod_ok {i j : Int} (h : 0 < j) : oMod (.int i) (.int j) = some (.int (i % j)) := by simp [h]
theorem mod_nn (a b : Int) (h : 0 < b) : 0 ≤ a % b := Int.emod_nonneg _ (by omega)
theorem mod_lt (a b : Int) (h : 0 < b) : a % b < b := Int.emod_lt_of_pos _ h
/-! ### spread: counts drawn -/
structure Counts (n N : Int) (one : Bool) (c : List Int) : Prop where
  len : (c.length : Int) = n
  nn : ∀ x ∈ c, 0 ≤ x ∧ x ≤ N
  sum : one = true → c.sum = N
theorem sum_set (c : List Int) (i : Nat) (h : i < c.length) : (c.set i (c[i] + 1)).sum = c.sum + 1 := by
  induction c generalizing i with
  | nil => simp at h
  | cons x c ih =>
    cases i with
    | zero => simp; omega
    | succ i =>
      have := ih i (by simpa using h)
      simp [this]; omega
theorem le_sum {c : List Int} (h : ∀ x ∈ c, 0 ≤ x) : ∀ x ∈ c, x ≤ c.sum := by
  induction c with
  | nil => intro x hx; cases hx
  | cons y c ih =>
    intro x hx
    have h0 : ∀ x ∈ c, 0 ≤ x := fun x hx => h x (List.mem_cons_of_mem _ hx)
    have s0 : 0 ≤ c.sum := by
      clear ih hx
      induction c with
      | nil => simp
      | cons z c ih =>
        rw [List.sum_cons]
        have := h0 z List.mem_cons_self
        have := ih (fun w hw => h w (by rcases List.mem_cons.mp hw with rfl | hw; exact List.mem_cons_self; exact List.mem_cons_of_mem _ (List.mem_cons_of_mem _ hw))) fun w hw => h0 w (List.mem_cons_of_mem _ hw)
        omega
    rw [List.sum_cons]
    rcases List.mem_cons.mp hx with rfl | hx
    · omega
    · have := ih h0 x hx; have := h y List.mem_cons_self; omega
theorem kind_some (b : Bool) : decide (kindS b = "some") = !b := by cases b <;> decide +kernel
theorem kind_one (b : Bool) : decide (kindS b = "one") = b := by cases b <;> decide +kernel
theorem E_spread {row : List Int} (hl : row.length = 60) (hb : ∀ v ∈ row, 0 ≤ v ∧ v < 1000) (a N n : Int) (one : Bool) (ha : 0 ≤ a) (hN : 1 ≤ N) (hN2 : N ≤ 1000) (hn : 1 ≤ n) (hn2 : n ≤ 6) :
    ∃ c, Counts n N one c ∧ F__law_spread [.lst (row.map Dt.int), .int a, .int N, .int n, .str (kindS one)] = .ok (.lst (c.map Dt.int)) := by
  have k := kind_some one
  have r0 : inR n = true := inR_of (by omega) (by omega)
  have r1 : inR N = true := inR_of (by omega) (by omega)
  have rn : rngD 0 n.toNat = (rng n.toNat).map Dt.int := rngD_map _
  have rN : rngD 0 N.toNat = (rng N.toNat).map Dt.int := rngD_map _
  have ln := len_rng n.toNat
  cases one with
  | false =>
    refine ⟨(rng n.toNat).map fun t => at0 row ((a + t) % 60) % (N + 1), ⟨by rw [List.length_map, ln]; omega, fun x hx => ?_, fun h => nomatch h⟩, ?_⟩
    · obtain ⟨t, _, rfl⟩ := List.mem_map.mp hx
      have := mod_nn (at0 row ((a + t) % 60)) (N + 1) (by omega)
      have := mod_lt (at0 row ((a + t) % 60)) (N + 1) (by omega)
      omega
    · have e : e__law_spread_1 [.va (.lst (row.map Dt.int)), .va (.int a), .va (.int N), .va (.int n), .va (.str (kindS false)), .no, .no, .no] = .ok (.lst (((rng n.toNat).map fun t => at0 row ((a + t) % 60) % (N + 1)).map Dt.int)) := by
        unfold e__law_spread_1
        rw [List.map_map]
        refine lc_all Dt.int (Dt.int ∘ fun t => at0 row ((a + t) % 60) % (N + 1)) (rng n.toNat) ?_ (by omega) fun t ht => ⟨_, rfl, ?_⟩
        · simp only [r0, rn, runF, List.length_cons, List.length_nil, if_true, if_false, List.map_cons, List.map_nil, List.cons_append, List.nil_append, List.replicate, sSeq, sIf, sRet, sNil, sSet, sSetN, sPar, sAsg, sFz, fz, sFor, sExpr, sRaise, sWh, rob, cOr, cAnd, cNot, cT, cTru, cB, cIf, c1, c2, cV, cVw, cK, cAndV, cOrV, cNotV, cChain, aCons, aNil, cCall, cB1, cTup, cLst, cLc, cSeqA, cRng1, cRng2, cEnum, enumO, cZip, zipO, cCut, pSome, pNo, oCut, gT, gsCons, gsNil, gN, Rs.bind, Option.bind, Option.map, ofO, cond, truD, fgt, List.foldl, List.set, lim, List.getElem?_cons_zero, List.getElem?_cons_succ, Nat.zero_add, Nat.reduceSub, Nat.reduceAdd, Nat.reduceLeDiff, Nat.reduceEqDiff, Bool.not_true, Bool.not_false, Bool.not_not, Bool.false_and, Bool.true_and, Bool.and_true, Bool.and_false, Bool.false_or, Bool.true_or, Bool.or_true, Bool.or_false, decide_true, decide_false, oNe_int, oEq_int, oEq_str, oNe_str, at20, at21, at30, at31, at32, len2, len3, isi_tup, isi_str, le_int, gt_int, lt_int, ge_int, oMax2, oMin2, gt_iff_lt, max_if, min_if, oAdd_int, oSub_int, oNeg_int, cDc, cTupRg, dec_refl, tvYes, List.isEmpty_nil, List.isEmpty_cons]
        · have e1 := row_at hl (a + t)
          have e2 := oMod_ok (i := a + t) (show (0 : Int) < 60 by decide)
          have e3 := oMod_ok (i := at0 row ((a + t) % 60)) (show (0 : Int) < N + 1 by omega)
          simp only [e1, e2, e3, Function.comp_apply, runF, List.length_cons, List.length_nil, if_true, if_false, List.map_cons, List.map_nil, List.cons_append, List.nil_append, List.replicate, sSeq, sIf, sRet, sNil, sSet, sSetN, sPar, sAsg, sFz, fz, sFor, sExpr, sRaise, sWh, rob, cOr, cAnd, cNot, cT, cTru, cB, cIf, c1, c2, cV, cVw, cK, cAndV, cOrV, cNotV, cChain, aCons, aNil, cCall, cB1, cTup, cLst, cLc, cSeqA, cRng1, cRng2, cEnum, enumO, cZip, zipO, cCut, pSome, pNo, oCut, gT, gsCons, gsNil, gN, Rs.bind, Option.bind, Option.map, ofO, cond, truD, fgt, List.foldl, List.set, lim, List.getElem?_cons_zero, List.getElem?_cons_succ, Nat.zero_add, Nat.reduceSub, Nat.reduceAdd, Nat.reduceLeDiff, Nat.reduceEqDiff, Bool.not_true, Bool.not_false, Bool.not_not, Bool.false_and, Bool.true_and, Bool.and_true, Bool.and_false, Bool.false_or, Bool.true_or, Bool.or_true, Bool.or_false, decide_true, decide_false, oNe_int, oEq_int, oEq_str, oNe_str, at20, at21, at30, at31, at32, len2, len3, isi_tup, isi_str, le_int, gt_int, lt_int, ge_int, oMax2, oMin2, gt_iff_lt, max_if, min_if, oAdd_int, oSub_int, oNeg_int, cDc, cTupRg, dec_refl, tvYes, List.isEmpty_nil, List.isEmpty_cons]
      generalize row.map Dt.int = rw' at *
      simp only [F__law_spread, g__law_spread, k, e, runF, List.length_cons, List.length_nil, if_true, if_false, List.map_cons, List.map_nil, List.cons_append, List.nil_append, List.replicate, sSeq, sIf, sRet, sNil, sSet, sSetN, sPar, sAsg, sFz, fz, sFor, sExpr, sRaise, sWh, rob, cOr, cAnd, cNot, cT, cTru, cB, cIf, c1, c2, cV, cVw, cK, cAndV, cOrV, cNotV, cChain, aCons, aNil, cCall, cB1, cTup, cLst, cLc, cSeqA, cRng1, cRng2, cEnum, enumO, cZip, zipO, cCut, pSome, pNo, oCut, gT, gsCons, gsNil, gN, Rs.bind, Option.bind, Option.map, ofO, cond, truD, fgt, List.foldl, List.set, lim, List.getElem?_cons_zero, List.getElem?_cons_succ, Nat.zero_add, Nat.reduceSub, Nat.reduceAdd, Nat.reduceLeDiff, Nat.reduceEqDiff, Bool.not_true, Bool.not_false, Bool.not_not, Bool.false_and, Bool.true_and, Bool.and_true, Bool.and_false, Bool.false_or, Bool.true_or, Bool.or_true, Bool.or_false, decide_true, decide_false, oNe_int, oEq_int, oEq_str, oNe_str, at20, at21, at30, at31, at32, len2, len3, isi_tup, isi_str, le_int, gt_int, lt_int, ge_int, oMax2, oMin2, gt_iff_lt, max_if, min_if, oAdd_int, oSub_int, oNeg_int, cDc, cTupRg, dec_refl, tvYes, List.isEmpty_nil, List.isEmpty_cons]
  | true =>
    have e := goFor_inv (tg := gN 6) (fg := [6]) (body := b__law_spread_2) Dt.int (fun c : List Int => [.va (.lst (row.map Dt.int)), .va (.int a), .va (.int N), .va (.int n), .va (.str (kindS true)), .ow (.lst (c.map Dt.int)), .no, .no])
      (fun k c => c.length = n.toNat ∧ (∀ x ∈ c, 0 ≤ x) ∧ c.sum = (k : Int)) (rng N.toNat) 0 (List.replicate n.toNat 0) ⟨by simp, fun x hx => by have := List.eq_of_mem_replicate hx; omega, by simp⟩ ?_
    · obtain ⟨c, e, h1, h2, h3⟩ := e
      rw [len_rng] at h3
      refine ⟨c, ⟨by omega, fun x hx => ⟨h2 x hx, by have := le_sum h2 x hx; omega⟩, fun _ => by omega⟩, ?_⟩
      have e2 : oRep (.lst [.int 0]) (.int n) = some (.lst ((List.replicate n.toNat (0 : Int)).map Dt.int)) := by
        have : ([Dt.int 0].length * n.toNat ≤ 16000000) := by simp; omega
        simp only [oRep, lim, this, decide_true, Bool.and_true]
        rw [if_pos (by simp; omega)]
        congr 2
        generalize n.toNat = m
        induction m with
        | zero => rfl
        | succ m ih => rw [List.replicate_succ, List.replicate_succ, List.flatten_cons, ih]; rfl
      rw [rN.symm] at e
      generalize (List.replicate n.toNat (0 : Int)).map Dt.int = z at *
      generalize row.map Dt.int = rw' at *
      simp only [F__law_spread, g__law_spread, k, e, e2, r1, runF, List.length_cons, List.length_nil, if_true, if_false, List.map_cons, List.map_nil, List.cons_append, List.nil_append, List.replicate, sSeq, sIf, sRet, sNil, sSet, sSetN, sPar, sAsg, sFz, fz, sFor, sExpr, sRaise, sWh, rob, cOr, cAnd, cNot, cT, cTru, cB, cIf, c1, c2, cV, cVw, cK, cAndV, cOrV, cNotV, cChain, aCons, aNil, cCall, cB1, cTup, cLst, cLc, cSeqA, cRng1, cRng2, cEnum, enumO, cZip, zipO, cCut, pSome, pNo, oCut, gT, gsCons, gsNil, gN, Rs.bind, Option.bind, Option.map, ofO, cond, truD, fgt, List.foldl, List.set, lim, List.getElem?_cons_zero, List.getElem?_cons_succ, Nat.zero_add, Nat.reduceSub, Nat.reduceAdd, Nat.reduceLeDiff, Nat.reduceEqDiff, Bool.not_true, Bool.not_false, Bool.not_not, Bool.false_and, Bool.true_and, Bool.and_true, Bool.and_false, Bool.false_or, Bool.true_or, Bool.or_true, Bool.or_false, decide_true, decide_false, oNe_int, oEq_int, oEq_str, oNe_str, at20, at21, at30, at31, at32, len2, len3, isi_tup, isi_str, le_int, gt_int, lt_int, ge_int, oMax2, oMin2, gt_iff_lt, max_if, min_if, oAdd_int, oSub_int, oNeg_int, cDc, cTupRg, dec_refl, tvYes, List.isEmpty_nil, List.isEmpty_cons]
    · intro i c x hx ⟨h1, h2, h3⟩
      have hx0 : 0 ≤ x := (mem_rng.mp (List.mem_of_getElem? hx)).1
      have m1 := row_at hl (a + x * (1 + at0 row (a % 60) % 3))
      have m2 := row_at hl a
      have o1 := oMod_ok (i := a) (show (0 : Int) < 60 by decide)
      have o2 := oMod_ok (i := at0 row (a % 60)) (show (0 : Int) < 3 by decide)
      have o3 := oMod_ok (i := a + x * (1 + at0 row (a % 60) % 3)) (show (0 : Int) < 60 by decide)
      have t1 := mod_nn (at0 row (a % 60)) 3 (by decide)
      have t2 := mod_lt (at0 row (a % 60)) 3 (by decide)
      have o4 : oMul (.int x) (.int (1 + at0 row (a % 60) % 3)) = some (.int (x * (1 + at0 row (a % 60) % 3))) := oMul_ok (by rw [small_of (i := 1 + at0 row (a % 60) % 3) (by omega) (by omega), Bool.or_true])
      generalize at0 row ((a + x * (1 + at0 row (a % 60) % 3)) % 60) = v at *
      have o5 := oMod_ok (i := v) (show (0 : Int) < n by omega)
      have u1 := mod_nn v n (by omega)
      have u2 := mod_lt v n (by omega)
      have hi : (v % n).toNat < c.length := by omega
      refine ⟨c.set (v % n).toNat (c[(v % n).toNat] + 1), ⟨by simp [h1], fun y hy => ?_, by rw [sum_set c _ hi, h3]; omega⟩, _, [.va (.lst (row.map Dt.int)), .va (.int a), .va (.int N), .va (.int n), .va (.str (kindS true)), .ow (.lst ((c.set (v % n).toNat (c[(v % n).toNat] + 1)).map Dt.int)), .va (.int x), .no], rfl, ?_, rfl⟩
      · rcases List.mem_or_eq_of_mem_set hy with hy | rfl
        · exact h2 y hy
        · have := h2 _ (List.getElem_mem hi); omega
      · have g1 : (c.map Dt.int)[(v % n).toNat]? = some (.int c[(v % n).toNat]) := by rw [List.getElem?_map, List.getElem?_eq_getElem hi]; rfl
        have g2 : (c.set (v % n).toNat (c[(v % n).toNat] + 1)).map Dt.int = (c.map Dt.int).set (v % n).toNat (.int (c[(v % n).toNat] + 1)) := by rw [List.map_set]
        rw [g2]
        generalize c[(v % n).toNat] = w at *
        generalize c.map Dt.int = cd at *
        generalize row.map Dt.int = rw' at *
        simp only [b__law_spread_2, sAugL, m1, m2, o1, o2, o3, o4, o5, u1, g1, runF, List.length_cons, List.length_nil, if_true, if_false, List.map_cons, List.map_nil, List.cons_append, List.nil_append, List.replicate, sSeq, sIf, sRet, sNil, sSet, sSetN, sPar, sAsg, sFz, fz, sFor, sExpr, sRaise, sWh, rob, cOr, cAnd, cNot, cT, cTru, cB, cIf, c1, c2, cV, cVw, cK, cAndV, cOrV, cNotV, cChain, aCons, aNil, cCall, cB1, cTup, cLst, cLc, cSeqA, cRng1, cRng2, cEnum, enumO, cZip, zipO, cCut, pSome, pNo, oCut, gT, gsCons, gsNil, gN, Rs.bind, Option.bind, Option.map, ofO, cond, truD, fgt, List.foldl, List.set, lim, List.getElem?_cons_zero, List.getElem?_cons_succ, Nat.zero_add, Nat.reduceSub, Nat.reduceAdd, Nat.reduceLeDiff, Nat.reduceEqDiff, Bool.not_true, Bool.not_false, Bool.not_not, Bool.false_and, Bool.true_and, Bool.and_true, Bool.and_false, Bool.false_or, Bool.true_or, Bool.or_true, Bool.or_false, decide_true, decide_false, oNe_int, oEq_int, oEq_str, oNe_str, at20, at21, at30, at31, at32, len2, len3, isi_tup, isi_str, le_int, gt_int, lt_int, ge_int, oMax2, oMin2, gt_iff_lt, max_if, min_if, oAdd_int, oSub_int, oNeg_int, cDc, cTupRg, dec_refl, tvYes, List.isEmpty_nil, List.isEmpty_cons]
/-- the counts of a lot together -/
def cnt (c : List Int) (l : Lot) : Int := (l.map (at0 c)).sum
theorem at0_nn {c : List Int} (h : ∀ x ∈ c, 0 ≤ x) (k : Int) : 0 ≤ at0 c k := by
  unfold at0
  by_cases q : k.toNat < c.length
  · simp only [List.getD, List.getElem?_eq_getElem q, Option.getD_some]
    exact h _ (List.getElem_mem q)
  · simp only [List.getD, List.getElem?_eq_none (Nat.le_of_not_lt q), Option.getD_none]; omega
theorem sum_nn {c : List Int} (h : ∀ x ∈ c, 0 ≤ x) : 0 ≤ c.sum := by
  induction c with
  | nil => simp
  | cons z c ih =>
    rw [List.sum_cons]
    have := h z List.mem_cons_self
    have := ih fun w hw => h w (List.mem_cons_of_mem _ hw)
    omega
theorem cnt_nn {c : List Int} (h : ∀ x ∈ c, 0 ≤ x) (l : Lot) : 0 ≤ cnt c l := sum_nn fun x hx => by
  obtain ⟨t, _, rfl⟩ := List.mem_map.mp hx
  exact at0_nn h t
theorem cnt_drop {c : List Int} (h : ∀ x ∈ c, 0 ≤ x) : ∀ (l : Lot) (a : Nat), l.Pairwise (· < ·) → (∀ x ∈ l, (a : Int) ≤ x ∧ x < c.length) → cnt c l ≤ (c.drop a).sum
  | [], a, _, _ => sum_nn fun x hx => h x (List.mem_of_mem_drop hx)
  | x :: r, a, ha, b => by
    have hx := b x List.mem_cons_self
    have ih := cnt_drop h r (x.toNat + 1) ha.of_cons fun y hy => by
      have h1 := List.rel_of_pairwise_cons ha hy
      have h2 := b y (List.mem_cons_of_mem _ hy)
      omega
    have hk : x.toNat < c.length := by omega
    have e1 : (c.drop x.toNat).sum = c[x.toNat] + (c.drop (x.toNat + 1)).sum := by rw [List.drop_eq_getElem_cons hk, List.sum_cons]
    have e2 : at0 c x = c[x.toNat] := by unfold at0; simp [hk]
    have e3 : (c.drop x.toNat).sum ≤ (c.drop a).sum := by
      have : c.drop x.toNat = (c.drop a).drop (x.toNat - a) := by rw [List.drop_drop]; congr 1; omega
      rw [this]
      have s := List.take_append_drop (x.toNat - a) (c.drop a)
      have := congrArg List.sum s
      rw [List.sum_append] at this
      have := sum_nn (c := (c.drop a).take (x.toNat - a)) fun y hy => h y (List.mem_of_mem_drop (List.mem_of_mem_take hy))
      omega
    unfold cnt at ih ⊢
    rw [List.map_cons, List.sum_cons, e2]
    omega
theorem cnt_le {n N : Int} {one : Bool} {c : List Int} (h : Counts n N one c) (l : Lot) (hl : LotOk n l) (h1 : one = true ∨ l.length ≤ 1) (hN : 0 ≤ N) : 0 ≤ cnt c l ∧ cnt c l ≤ N := by
  have nn : ∀ x ∈ c, 0 ≤ x := fun x hx => (h.nn x hx).1
  refine ⟨cnt_nn nn l, ?_⟩
  rcases h1 with h1 | h1
  · have := cnt_drop nn l 0 hl.asc fun x hx => by have := hl.lo x hx; have := h.len; omega
    rw [List.drop_zero, h.sum h1] at this
    exact this
  · cases l with
    | nil => exact absurd rfl hl.ne
    | cons x r =>
      have : r = [] := by simp only [List.length_cons] at h1; exact List.length_eq_zero_iff.mp (by omega)
      subst this
      have hx := hl.lo x List.mem_cons_self
      have hk : x.toNat < c.length := by have := h.len; omega
      have e2 : at0 c x = c[x.toNat] := by unfold at0; simp [hk]
      unfold cnt
      simp only [List.map_cons, List.map_nil, List.sum_cons, List.sum_nil, e2]
      have := (h.nn _ (List.getElem_mem hk)).2
      omega
theorem shF_range (c n u : Int) (w : Str) (h1 : 1 ≤ n) (h0 : 0 ≤ c) (hc : c ≤ n) (hu : 0 ≤ u) : 0 ≤ shF c n u w ∧ shF c n u w ≤ u := by
  have m : u * c ≤ u * n := Int.mul_le_mul_of_nonneg_left hc hu
  have m0 : 0 ≤ u * c := Int.mul_nonneg hu h0
  unfold shF
  split
  · exact ⟨Int.ediv_nonneg m0 (by omega), Int.ediv_le_of_le_mul (by omega) m⟩
  · split
    · refine ⟨Int.ediv_nonneg (by omega) (by omega), ?_⟩
      have : (u * c + n - 1) / n < u + 1 := Int.ediv_lt_of_lt_mul (by omega) (by rw [Int.add_mul, Int.one_mul]; omega)
      omega
    · have e : 2 * u * c = 2 * (u * c) := Int.mul_assoc _ _ _
      refine ⟨Int.ediv_nonneg (by omega) (by omega), ?_⟩
      have : (2 * u * c + n) / (2 * n) < u + 1 := Int.ediv_lt_of_lt_mul (by omega) (by rw [Int.add_mul, Int.one_mul, Int.mul_left_comm]; omega)
      omega
end Sh
namespace Sh
open PySem L2 Dl
/-! ### lots that nest -/
def ltI (a b : Int) : Bool := decide (a < b)
def srtI (l : List Int) : List Int := srtB ltI l
theorem ltD_int (a b : Int) : ltD (.int a) (.int b) = ltI a b := by
  unfold ltD skG ltI
  simp [skD, ltS]
theorem insB_map (x : Int) : ∀ l : List Int, insB ltD (.int x) (l.map Dt.int) = (insB ltI x l).map Dt.int
  | [] => rfl
  | y :: l => by
    rw [List.map_cons]
    unfold insB
    rw [ltD_int, insB_map x l]
    split <;> rfl
theorem srtB_map : ∀ l : List Int, srtB ltD (l.map Dt.int) = (srtI l).map Dt.int
  | [] => rfl
  | x :: l => by
    rw [List.map_cons]
    unfold srtI srtB
    rw [srtB_map l]
    exact insB_map x _
theorem okD_ints (l : List Int) : okD (l.map Dt.int) = true := by
  unfold okD
  rw [skA_nums]
  unfold okK
  rw [Bool.or_eq_true]
  refine .inl ?_
  simp [isNum]
theorem oSort_ints (l : List Int) : oSort [.lst (l.map Dt.int)] = some (.lst ((srtI l).map Dt.int)) := by
  simp only [oSort, okD_ints, if_true, srtB_map]
def tK (l : Lot) : SK := .tup (l.map .num)
def ltL (a b : Lot) : Bool := ltS (tK a) (tK b)
def nubL : List Lot → List Lot
  | [] => []
  | k :: ks => if k ∈ nubL ks then nubL ks else k :: nubL ks
def sortSet (ls : List Lot) : List Lot := srtB ltL (nubL ls)
theorem tK_inj {a b : Lot} (h : tK a = tK b) : a = b := by
  unfold tK at h
  injection h with h
  exact map_num_inj h
theorem nub_map : ∀ ls : List Lot, nubS (ls.map tK) = (nubL ls).map tK
  | [] => rfl
  | l :: ls => by
    rw [List.map_cons]
    unfold nubS nubL
    rw [nub_map ls]
    have e : (tK l ∈ (nubL ls).map tK) ↔ l ∈ nubL ls := by
      rw [List.mem_map]
      exact ⟨fun ⟨x, hx, e⟩ => tK_inj e ▸ hx, fun h => ⟨l, h, rfl⟩⟩
    by_cases h : l ∈ nubL ls
    · rw [if_pos h, if_pos (e.mpr h)]
    · rw [if_neg h, if_neg fun z => h (e.mp z)]; rfl
theorem insL_map (x : Lot) : ∀ ls : List Lot, insB ltS (tK x) (ls.map tK) = (insB ltL x ls).map tK
  | [] => rfl
  | y :: l => by
    rw [List.map_cons]
    unfold insB
    rw [insL_map x l]
    show (if ltS (tK x) (tK y) = true then _ else _) = _
    unfold ltL
    split <;> rfl
theorem srtL_map : ∀ ls : List Lot, srtB ltS (ls.map tK) = (srtB ltL ls).map tK
  | [] => rfl
  | x :: l => by
    rw [List.map_cons]
    unfold srtB
    rw [srtL_map l]
    exact insL_map x _
theorem skA_lots : ∀ ls : List Lot, skA (ls.map lotD) = some (ls.map tK)
  | [] => by simp [skA]
  | l :: ls => by simp [skA, skD, skA_nums, skA_lots ls, lotD, tK]
theorem dtA_lots : ∀ ls : List Lot, dtA (ls.map tK) = ls.map lotD
  | [] => by simp [dtA]
  | l :: ls => by simp [dtA, dtS, dtA_nums, dtA_lots ls, lotD, tK]
theorem okR_tK (ls : List Lot) (h : ∀ l ∈ ls, l ≠ []) : okR (ls.map tK) = true := by
  unfold okR
  simp only [Bool.and_eq_true, List.all_eq_true, List.mem_map]
  refine ⟨⟨?_, ?_⟩, ?_⟩
  · rintro _ ⟨l, hl, rfl⟩
    cases l with
    | nil => exact absurd rfl (h _ hl)
    | cons x r => rfl
  · rintro _ ⟨l, _, rfl⟩ _ ⟨m, _, rfl⟩
    simp [tK, sameK, sameA_nums]
  · rintro _ ⟨l, _, rfl⟩
    simp [tK, dpK, dpA_nums]
theorem oSortSet_lots (ls : List Lot) (h : ∀ l ∈ ls, l ≠ []) (hl : ls.length < 64) : oSortSet (.lst (ls.map lotD)) = some (.lst ((sortSet ls).map lotD)) := by
  show (skAll (ls.map lotD)).map (fun ks => Dt.lst (dtA (ssK ks))) = _
  unfold skAll
  rw [skA_lots]
  simp only [Option.bind_some, okR_tK ls h, List.length_map, hl, decide_true, Bool.and_self, if_true, Option.map_some]
  unfold ssK sortSet
  rw [nub_map, srtL_map, dtA_lots]
def ordF (n r : Int) : List Int := (rng n.toNat).map fun t => (t + r) % n
def rng2 (n : Int) : List Int := (List.range (n + 1 - 2).toNat).map fun i : Nat => 2 + (i : Int)
def nestL (n r : Int) (b : Bool) : List Lot := (rng n.toNat).map (fun i => [i]) ++ (if b then (rng2 n).map fun m => srtI ((ordF n r).take m.toNat) else [srtI ((ordF n r).take ((n + 1) / 2).toNat), srtI ((ordF n r).drop ((n + 1) / 2).toNat), rng n.toNat])
def nestF (n r : Int) (b : Bool) : List Lot := sortSet ((nestL n r b).filter fun l => !decide (l = []))
def singles (n : Int) : List Lot := (rng n.toNat).map fun i => [i]
def famAll (n : Int) (ls : List Lot) : List Lot := ls ++ singles n ++ [rng n.toNat]
/-- what is asked of a family of lots -/
def famB (n : Int) (ls : List Lot) : Bool := ls.all (lotB n) && (adjB geI ls && (decide (ls.Pairwise fun a b => geI a b = false) && (decide (ls.length ≤ 10) && (famAll n ls).all fun a => (famAll n ls).all fun b => decide (b.length < a.length) || nestB a b)))
theorem cut_to (ds : List Dt) (k : Nat) : cutD ds none (some (k : Int)) = ds.take k := by
  show (ds.drop (HT.sIx ds.length 0 none)).take (HT.sIx ds.length ds.length (some ((k : Nat) : Int)) - HT.sIx ds.length 0 none) = _
  rw [HT.sIx_nat, HT.sIx_none]
  rw [List.drop_zero, Nat.sub_zero]
  rcases Nat.le_total k ds.length with h | h
  · rw [Nat.min_eq_left h]
  · rw [Nat.min_eq_right h, List.take_of_length_le h, List.take_length]
theorem cut_from (ds : List Dt) (k : Nat) : cutD ds (some (k : Int)) none = ds.drop k := by
  show (ds.drop (HT.sIx ds.length 0 (some ((k : Nat) : Int)))).take (HT.sIx ds.length ds.length none - HT.sIx ds.length 0 (some ((k : Nat) : Int))) = _
  rw [HT.sIx_nat, HT.sIx_none]
  rcases Nat.le_total k ds.length with h | h
  · rw [Nat.min_eq_left h]
    exact List.take_of_length_le (by rw [List.length_drop]; exact Nat.le_refl _)
  · rw [Nat.min_eq_right h, List.drop_eq_nil_of_le h, List.drop_eq_nil_of_le (Nat.le_refl _)]
    simp
theorem cut_toI (l : List Int) (k : Int) (h : 0 ≤ k) : cutD (l.map Dt.int) none (some k) = (l.take k.toNat).map Dt.int := by
  obtain ⟨m, rfl⟩ := Int.eq_ofNat_of_zero_le h
  rw [cut_to, List.map_take, Int.toNat_natCast]
theorem cut_fromI (l : List Int) (k : Int) (h : 0 ≤ k) : cutD (l.map Dt.int) (some k) none = (l.drop k.toNat).map Dt.int := by
  obtain ⟨m, rfl⟩ := Int.eq_ofNat_of_zero_le h
  rw [cut_from, List.map_drop, Int.toNat_natCast]
theorem E_nest {row : List Int} (hl : row.length = 60) (hb : ∀ v ∈ row, 0 ≤ v ∧ v < 1000) (a n : Int) (one : Bool) (ha : 0 ≤ a) (hn : 1 ≤ n) (hn2 : n ≤ 6) :
    F__law_nest [.lst (row.map Dt.int), .int a, .int n, .str (kindS one)] = .ok (.lst ((if one then nestF n (at0 row (a % 60)) (decide (at0 row ((a + 1) % 60) % 2 = 0)) else singles n).map lotD)) := by
  have k := kind_some one
  have r0 : inR n = true := inR_of (by omega) (by omega)
  have rn : rngD 0 n.toNat = (rng n.toNat).map Dt.int := rngD_map _
  have ln := len_rng n.toNat
  have m1 := row_at hl a
  have m2 := row_at hl (a + 1)
  have o1 := oMod_ok (i := a) (show (0 : Int) < 60 by decide)
  have o2 := oMod_ok (i := a + 1) (show (0 : Int) < 60 by decide)
  have o3 := oMod_ok (i := at0 row ((a + 1) % 60)) (show (0 : Int) < 2 by decide)
  generalize hr : at0 row (a % 60) = r at *
  generalize hr2 : at0 row ((a + 1) % 60) % 2 = r2 at *
  have e1 : e__law_nest_1 [.va (.lst (row.map Dt.int)), .va (.int a), .va (.int n), .va (.str (kindS one)), .no, .no, .no, .no, .no, .no] = .ok (.lst ((ordF n r).map Dt.int)) := by
    unfold e__law_nest_1 ordF
    rw [List.map_map]
    refine lc_all Dt.int (Dt.int ∘ fun t => (t + r) % n) (rng n.toNat) ?_ (by omega) fun t ht => ⟨_, rfl, ?_⟩
    · simp only [r0, rn, runF, List.length_cons, List.length_nil, if_true, if_false, List.map_cons, List.map_nil, List.cons_append, List.nil_append, List.replicate, sSeq, sIf, sRet, sNil, sSet, sSetN, sPar, sAsg, sFz, fz, sFor, sExpr, sRaise, sWh, rob, cOr, cAnd, cNot, cT, cTru, cB, cIf, c1, c2, cV, cVw, cK, cAndV, cOrV, cNotV, cChain, aCons, aNil, cCall, cB1, cTup, cLst, cLc, cSeqA, cRng1, cRng2, cEnum, enumO, cZip, zipO, cCut, pSome, pNo, oCut, gT, gsCons, gsNil, gN, Rs.bind, Option.bind, Option.map, ofO, cond, truD, fgt, List.foldl, List.set, lim, List.getElem?_cons_zero, List.getElem?_cons_succ, Nat.zero_add, Nat.reduceSub, Nat.reduceAdd, Nat.reduceLeDiff, Nat.reduceEqDiff, Bool.not_true, Bool.not_false, Bool.not_not, Bool.false_and, Bool.true_and, Bool.and_true, Bool.and_false, Bool.false_or, Bool.true_or, Bool.or_true, Bool.or_false, decide_true, decide_false, oNe_int, oEq_int, oEq_str, oNe_str, at20, at21, at30, at31, at32, len2, len3, isi_tup, isi_str, le_int, gt_int, lt_int, ge_int, oMax2, oMin2, gt_iff_lt, max_if, min_if, oAdd_int, oSub_int, oNeg_int, cDc, cTupRg, dec_refl, tvYes, List.isEmpty_nil, List.isEmpty_cons]
    · have o4 := oMod_ok (i := t + r) (show (0 : Int) < n by omega)
      simp only [m1, o1, o4, Function.comp_apply, runF, List.length_cons, List.length_nil, if_true, if_false, List.map_cons, List.map_nil, List.cons_append, List.nil_append, List.replicate, sSeq, sIf, sRet, sNil, sSet, sSetN, sPar, sAsg, sFz, fz, sFor, sExpr, sRaise, sWh, rob, cOr, cAnd, cNot, cT, cTru, cB, cIf, c1, c2, cV, cVw, cK, cAndV, cOrV, cNotV, cChain, aCons, aNil, cCall, cB1, cTup, cLst, cLc, cSeqA, cRng1, cRng2, cEnum, enumO, cZip, zipO, cCut, pSome, pNo, oCut, gT, gsCons, gsNil, gN, Rs.bind, Option.bind, Option.map, ofO, cond, truD, fgt, List.foldl, List.set, lim, List.getElem?_cons_zero, List.getElem?_cons_succ, Nat.zero_add, Nat.reduceSub, Nat.reduceAdd, Nat.reduceLeDiff, Nat.reduceEqDiff, Bool.not_true, Bool.not_false, Bool.not_not, Bool.false_and, Bool.true_and, Bool.and_true, Bool.and_false, Bool.false_or, Bool.true_or, Bool.or_true, Bool.or_false, decide_true, decide_false, oNe_int, oEq_int, oEq_str, oNe_str, at20, at21, at30, at31, at32, len2, len3, isi_tup, isi_str, le_int, gt_int, lt_int, ge_int, oMax2, oMin2, gt_iff_lt, max_if, min_if, oAdd_int, oSub_int, oNeg_int, cDc, cTupRg, dec_refl, tvYes, List.isEmpty_nil, List.isEmpty_cons]
  have e2 : e__law_nest_2 [.va (.lst (row.map Dt.int)), .va (.int a), .va (.int n), .va (.str (kindS one)), .ow (.lst ((ordF n r).map Dt.int)), .no, .no, .no, .no, .no] = .ok (.lst ((singles n).map lotD)) := by
    unfold e__law_nest_2 singles
    rw [List.map_map]
    refine lc_all Dt.int (lotD ∘ fun i => [i]) (rng n.toNat) ?_ (by omega) fun t ht => ⟨_, rfl, ?_⟩
    · simp only [r0, rn, runF, List.length_cons, List.length_nil, if_true, if_false, List.map_cons, List.map_nil, List.cons_append, List.nil_append, List.replicate, sSeq, sIf, sRet, sNil, sSet, sSetN, sPar, sAsg, sFz, fz, sFor, sExpr, sRaise, sWh, rob, cOr, cAnd, cNot, cT, cTru, cB, cIf, c1, c2, cV, cVw, cK, cAndV, cOrV, cNotV, cChain, aCons, aNil, cCall, cB1, cTup, cLst, cLc, cSeqA, cRng1, cRng2, cEnum, enumO, cZip, zipO, cCut, pSome, pNo, oCut, gT, gsCons, gsNil, gN, Rs.bind, Option.bind, Option.map, ofO, cond, truD, fgt, List.foldl, List.set, lim, List.getElem?_cons_zero, List.getElem?_cons_succ, Nat.zero_add, Nat.reduceSub, Nat.reduceAdd, Nat.reduceLeDiff, Nat.reduceEqDiff, Bool.not_true, Bool.not_false, Bool.not_not, Bool.false_and, Bool.true_and, Bool.and_true, Bool.and_false, Bool.false_or, Bool.true_or, Bool.or_true, Bool.or_false, decide_true, decide_false, oNe_int, oEq_int, oEq_str, oNe_str, at20, at21, at30, at31, at32, len2, len3, isi_tup, isi_str, le_int, gt_int, lt_int, ge_int, oMax2, oMin2, gt_iff_lt, max_if, min_if, oAdd_int, oSub_int, oNeg_int, cDc, cTupRg, dec_refl, tvYes, List.isEmpty_nil, List.isEmpty_cons]
    · rfl
  have ls : (singles n).length = n.toNat := by unfold singles; simp [ln]
  cases one with
  | false =>
    simp only [Bool.false_eq_true, if_false]
    generalize row.map Dt.int = rw' at *
    generalize (singles n).map lotD = sg at *
    generalize (ordF n r).map Dt.int = od at *
    simp only [F__law_nest, g__law_nest, k, e1, e2, runF, List.length_cons, List.length_nil, if_true, if_false, List.map_cons, List.map_nil, List.cons_append, List.nil_append, List.replicate, sSeq, sIf, sRet, sNil, sSet, sSetN, sPar, sAsg, sFz, fz, sFor, sExpr, sRaise, sWh, rob, cOr, cAnd, cNot, cT, cTru, cB, cIf, c1, c2, cV, cVw, cK, cAndV, cOrV, cNotV, cChain, aCons, aNil, cCall, cB1, cTup, cLst, cLc, cSeqA, cRng1, cRng2, cEnum, enumO, cZip, zipO, cCut, pSome, pNo, oCut, gT, gsCons, gsNil, gN, Rs.bind, Option.bind, Option.map, ofO, cond, truD, fgt, List.foldl, List.set, lim, List.getElem?_cons_zero, List.getElem?_cons_succ, Nat.zero_add, Nat.reduceSub, Nat.reduceAdd, Nat.reduceLeDiff, Nat.reduceEqDiff, Bool.not_true, Bool.not_false, Bool.not_not, Bool.false_and, Bool.true_and, Bool.and_true, Bool.and_false, Bool.false_or, Bool.true_or, Bool.or_true, Bool.or_false, decide_true, decide_false, oNe_int, oEq_int, oEq_str, oNe_str, at20, at21, at30, at31, at32, len2, len3, isi_tup, isi_str, le_int, gt_int, lt_int, ge_int, oMax2, oMin2, gt_iff_lt, max_if, min_if, oAdd_int, oSub_int, oNeg_int, cDc, cTupRg, dec_refl, tvYes, List.isEmpty_nil, List.isEmpty_cons]
  | true =>
    simp only [if_true]
    have lr2 : (rng2 n).length = (n - 1).toNat := by unfold rng2; simp; omega
    have e3 : e__law_nest_3 [.va (.lst (row.map Dt.int)), .va (.int a), .va (.int n), .va (.str (kindS true)), .va (.lst ((ordF n r).map Dt.int)), .ow (.lst ((singles n).map lotD)), .no, .no, .no, .no] = .ok (.lst (((rng2 n).map fun m => srtI ((ordF n r).take m.toNat)).map lotD)) := by
      unfold e__law_nest_3
      rw [List.map_map]
      refine lc_all Dt.int (lotD ∘ fun m => srtI ((ordF n r).take m.toNat)) (rng2 n) ?_ (by omega) fun m hm => ⟨_, rfl, ?_⟩
      · have i1 : inR 2 = true := by decide
        have i2 : inR (n + 1) = true := inR_of (by omega) (by omega)
        have i3 : rngD 2 (n + 1 - 2).toNat = (rng2 n).map Dt.int := by
          unfold rngD rng2
          rw [List.map_map]
          rfl
        simp only [cRng2, i1, i2, i3, and_self, if_true, runF, List.length_cons, List.length_nil, if_true, if_false, List.map_cons, List.map_nil, List.cons_append, List.nil_append, List.replicate, sSeq, sIf, sRet, sNil, sSet, sSetN, sPar, sAsg, sFz, fz, sFor, sExpr, sRaise, sWh, rob, cOr, cAnd, cNot, cT, cTru, cB, cIf, c1, c2, cV, cVw, cK, cAndV, cOrV, cNotV, cChain, aCons, aNil, cCall, cB1, cTup, cLst, cLc, cSeqA, cRng1, cRng2, cEnum, enumO, cZip, zipO, cCut, pSome, pNo, oCut, gT, gsCons, gsNil, gN, Rs.bind, Option.bind, Option.map, ofO, cond, truD, fgt, List.foldl, List.set, lim, List.getElem?_cons_zero, List.getElem?_cons_succ, Nat.zero_add, Nat.reduceSub, Nat.reduceAdd, Nat.reduceLeDiff, Nat.reduceEqDiff, Bool.not_true, Bool.not_false, Bool.not_not, Bool.false_and, Bool.true_and, Bool.and_true, Bool.and_false, Bool.false_or, Bool.true_or, Bool.or_true, Bool.or_false, decide_true, decide_false, oNe_int, oEq_int, oEq_str, oNe_str, at20, at21, at30, at31, at32, len2, len3, isi_tup, isi_str, le_int, gt_int, lt_int, ge_int, oMax2, oMin2, gt_iff_lt, max_if, min_if, oAdd_int, oSub_int, oNeg_int, cDc, cTupRg, dec_refl, tvYes, List.isEmpty_nil, List.isEmpty_cons]
      · have hm0 : 0 ≤ m := by
          unfold rng2 at hm
          obtain ⟨i, _, rfl⟩ := List.mem_map.mp hm
          omega
        have c := cut_toI (ordF n r) m hm0
        have s := oSort_ints ((ordF n r).take m.toNat)
        have l1 : ((srtI ((ordF n r).take m.toNat)).map Dt.int).length ≤ 16000000 := by
          have : (srtI ((ordF n r).take m.toNat)).length = ((ordF n r).take m.toNat).length := (srtB_perm _).length_eq
          have l2 : (ordF n r).length = n.toNat := by unfold ordF; simp [ln]
          rw [List.length_map, this, List.length_take, l2]; omega
        simp only [cCut, pNo, pSome, cV, List.getElem?_cons_zero, List.getElem?_cons_succ, fgt, List.foldl, List.set, Rs.bind, oCut, c, cB1, aCons, aNil, s, ofO, oTup, lim, l1, if_true, Function.comp_apply]
        rfl
    have lo : (ordF n r).length = n.toNat := by unfold ordF; simp [ln]
    have hq0 : 0 ≤ (n + 1) / 2 := by omega
    have e4 : ∀ (sx : Sl) (fam : List Lot), fam.length ≤ 20 → e__law_nest_4 [.va (.lst (row.map Dt.int)), .va (.int a), .va (.int n), .va (.str (kindS true)), .va (.lst ((ordF n r).map Dt.int)), .va (.lst (fam.map lotD)), sx, .no, .no, .no] = .ok (.lst ((fam.filter fun l => !decide (l = [])).map lotD)) := fun sx fam hf => by
      unfold e__law_nest_4
      refine lc_map lotD lotD (fun l => !decide (l = [])) fam rfl (by omega) fun l hl' => ⟨_, rfl, ?_, fun _ => rfl⟩
      have e := oNe_lot l []
      have e0 : lotD [] = .tup [] := rfl
      rw [e0] at e
      generalize lotD l = w at *
      simp only [e, runF, List.length_cons, List.length_nil, if_true, if_false, List.map_cons, List.map_nil, List.cons_append, List.nil_append, List.replicate, sSeq, sIf, sRet, sNil, sSet, sSetN, sPar, sAsg, sFz, fz, sFor, sExpr, sRaise, sWh, rob, cOr, cAnd, cNot, cT, cTru, cB, cIf, c1, c2, cV, cVw, cK, cAndV, cOrV, cNotV, cChain, aCons, aNil, cCall, cB1, cTup, cLst, cLc, cSeqA, cRng1, cRng2, cEnum, enumO, cZip, zipO, cCut, pSome, pNo, oCut, gT, gsCons, gsNil, gN, Rs.bind, Option.bind, Option.map, ofO, cond, truD, fgt, List.foldl, List.set, lim, List.getElem?_cons_zero, List.getElem?_cons_succ, Nat.zero_add, Nat.reduceSub, Nat.reduceAdd, Nat.reduceLeDiff, Nat.reduceEqDiff, Bool.not_true, Bool.not_false, Bool.not_not, Bool.false_and, Bool.true_and, Bool.and_true, Bool.and_false, Bool.false_or, Bool.true_or, Bool.or_true, Bool.or_false, decide_true, decide_false, oNe_int, oEq_int, oEq_str, oNe_str, at20, at21, at30, at31, at32, len2, len3, isi_tup, isi_str, le_int, gt_int, lt_int, ge_int, oMax2, oMin2, gt_iff_lt, max_if, min_if, oAdd_int, oSub_int, oNeg_int, cDc, cTupRg, dec_refl, tvYes, List.isEmpty_nil, List.isEmpty_cons]
    have fin : ∀ (sx : Sl) (fam : List Lot), fam.length ≤ 20 → fam = nestL n r (decide (r2 = 0)) → sFz 5 (sRet (c1 oSortSet e__law_nest_4)) [.va (.lst (row.map Dt.int)), .va (.int a), .va (.int n), .va (.str (kindS true)), .va (.lst ((ordF n r).map Dt.int)), .ow (.lst (fam.map lotD)), sx, .no, .no, .no] = .rt (.lst ((nestF n r (decide (r2 = 0))).map lotD)) := fun sx fam hf he => by
      have e := e4 sx fam hf
      have s := oSortSet_lots (fam.filter fun l => !decide (l = [])) (fun l hl' => by have := (List.mem_filter.mp hl').2; simpa using this) (Nat.lt_of_le_of_lt (List.length_filter_le _ _) (by omega))
      unfold nestF
      rw [← he]
      simp only [e, s, runF, List.length_cons, List.length_nil, if_true, if_false, List.map_cons, List.map_nil, List.cons_append, List.nil_append, List.replicate, sSeq, sIf, sRet, sNil, sSet, sSetN, sPar, sAsg, sFz, fz, sFor, sExpr, sRaise, sWh, rob, cOr, cAnd, cNot, cT, cTru, cB, cIf, c1, c2, cV, cVw, cK, cAndV, cOrV, cNotV, cChain, aCons, aNil, cCall, cB1, cTup, cLst, cLc, cSeqA, cRng1, cRng2, cEnum, enumO, cZip, zipO, cCut, pSome, pNo, oCut, gT, gsCons, gsNil, gN, Rs.bind, Option.bind, Option.map, ofO, cond, truD, fgt, List.foldl, List.set, lim, List.getElem?_cons_zero, List.getElem?_cons_succ, Nat.zero_add, Nat.reduceSub, Nat.reduceAdd, Nat.reduceLeDiff, Nat.reduceEqDiff, Bool.not_true, Bool.not_false, Bool.not_not, Bool.false_and, Bool.true_and, Bool.and_true, Bool.and_false, Bool.false_or, Bool.true_or, Bool.or_true, Bool.or_false, decide_true, decide_false, oNe_int, oEq_int, oEq_str, oNe_str, at20, at21, at30, at31, at32, len2, len3, isi_tup, isi_str, le_int, gt_int, lt_int, ge_int, oMax2, oMin2, gt_iff_lt, max_if, min_if, oAdd_int, oSub_int, oNeg_int, cDc, cTupRg, dec_refl, tvYes, List.isEmpty_nil, List.isEmpty_cons]
    by_cases h2 : r2 = 0
    · have d2 : decide (r2 = 0) = true := decide_eq_true h2
      have f := fin .no (singles n ++ (rng2 n).map fun m => srtI ((ordF n r).take m.toNat)) (by simp; omega) (by unfold nestL singles; rw [d2]; simp)
      have l1 : ((singles n).map lotD).length + (((rng2 n).map fun m => srtI ((ordF n r).take m.toNat)).map lotD).length ≤ 16000000 := by simp; omega
      rw [List.map_append] at f
      generalize row.map Dt.int = rw' at *
      generalize (singles n).map lotD = sg at *
      generalize (ordF n r).map Dt.int = od at *
      generalize ((rng2 n).map fun m => srtI ((ordF n r).take m.toNat)).map lotD = tl at *
      generalize nestF n r (decide (r2 = 0)) = nf at *
      have g1 : (sSeq (sIf (cT (c2 oEq (c2 oMod (c2 oAt (cVw 0) (c2 oMod (c2 oAdd (cV 1) (cK (.int 1))) (cK (.int 60)))) (cK (.int 2))) (cK (.int 0)))) (sFz 4 (sSetN 5 (c2 oCat (cVw 5) e__law_nest_3))) (sSeq (sSet 6 (c2 oDiv (c2 oAdd (cV 2) (cK (.int 1))) (cK (.int 2))))
  (sFz 4 (sSetN 5 (c2 oCat (cVw 5) (cLst (aCons (cB1 oTup (aCons (cB1 oSort (aCons (cCut (cV 4) pNo (pSome (cV 6))) aNil)) aNil)) (aCons (cB1 oTup (aCons (cB1 oSort (aCons (cCut (cV 4) (pSome (cV 6)) pNo) aNil)) aNil)) (aCons (cTupRg (cV 2)) aNil)))))))))
  (sFz 5 (sRet (c1 oSortSet e__law_nest_4)))) [.va (.lst rw'), .va (.int a), .va (.int n), .va (.str (kindS true)), .ow (.lst od), .ow (.lst sg), .no, .no, .no, .no] = .rt (.lst (nf.map lotD)) := by
        refine (seq_nx (ρ' := [.va (.lst rw'), .va (.int a), .va (.int n), .va (.str (kindS true)), .va (.lst od), .ow (.lst (sg ++ tl)), .no, .no, .no, .no]) ?_).trans f
        simp only [m2, o2, o3, d2, e3, oCat, l1, runF, List.length_cons, List.length_nil, if_true, if_false, List.map_cons, List.map_nil, List.cons_append, List.nil_append, List.replicate, sSeq, sIf, sRet, sNil, sSet, sSetN, sPar, sAsg, sFz, fz, sFor, sExpr, sRaise, sWh, rob, cOr, cAnd, cNot, cT, cTru, cB, cIf, c1, c2, cV, cVw, cK, cAndV, cOrV, cNotV, cChain, aCons, aNil, cCall, cB1, cTup, cLst, cLc, cSeqA, cRng1, cRng2, cEnum, enumO, cZip, zipO, cCut, pSome, pNo, oCut, gT, gsCons, gsNil, gN, Rs.bind, Option.bind, Option.map, ofO, cond, truD, fgt, List.foldl, List.set, lim, List.getElem?_cons_zero, List.getElem?_cons_succ, Nat.zero_add, Nat.reduceSub, Nat.reduceAdd, Nat.reduceLeDiff, Nat.reduceEqDiff, Bool.not_true, Bool.not_false, Bool.not_not, Bool.false_and, Bool.true_and, Bool.and_true, Bool.and_false, Bool.false_or, Bool.true_or, Bool.or_true, Bool.or_false, decide_true, decide_false, oNe_int, oEq_int, oEq_str, oNe_str, at20, at21, at30, at31, at32, len2, len3, isi_tup, isi_str, le_int, gt_int, lt_int, ge_int, oMax2, oMin2, gt_iff_lt, max_if, min_if, oAdd_int, oSub_int, oNeg_int, cDc, cTupRg, dec_refl, tvYes, List.isEmpty_nil, List.isEmpty_cons]
      simp only [sSeq, F__law_nest, g__law_nest, k, e1, e2, runF, List.length_cons, List.length_nil, if_true, if_false, List.map_cons, List.map_nil, List.cons_append, List.nil_append, List.replicate, sSeq, sIf, sRet, sNil, sSet, sSetN, sPar, sAsg, sFz, fz, sFor, sExpr, sRaise, sWh, rob, cOr, cAnd, cNot, cT, cTru, cB, cIf, c1, c2, cV, cVw, cK, cAndV, cOrV, cNotV, cChain, aCons, aNil, cCall, cB1, cTup, cLst, cLc, cSeqA, cRng1, cRng2, cEnum, enumO, cZip, zipO, cCut, pSome, pNo, oCut, gT, gsCons, gsNil, gN, Rs.bind, Option.bind, Option.map, ofO, cond, truD, fgt, List.foldl, List.set, lim, List.getElem?_cons_zero, List.getElem?_cons_succ, Nat.zero_add, Nat.reduceSub, Nat.reduceAdd, Nat.reduceLeDiff, Nat.reduceEqDiff, Bool.not_true, Bool.not_false, Bool.not_not, Bool.false_and, Bool.true_and, Bool.and_true, Bool.and_false, Bool.false_or, Bool.true_or, Bool.or_true, Bool.or_false, decide_true, decide_false, oNe_int, oEq_int, oEq_str, oNe_str] at g1 ⊢
      rw [g1]
    · have d2 : decide (r2 = 0) = false := decide_eq_false h2
      have sl : ∀ (x : List Int), (srtI x).length = x.length := fun x => (srtB_perm _).length_eq
      have f := fin (.va (.int ((n + 1) / 2))) (singles n ++ [srtI ((ordF n r).take ((n + 1) / 2).toNat), srtI ((ordF n r).drop ((n + 1) / 2).toNat), rng n.toNat]) (by simp; omega) (by unfold nestL singles; rw [d2]; simp)
      have l1 : ((singles n).map lotD).length + 3 ≤ 16000000 := by simp; omega
      have o5 : oDiv (.int (n + 1)) (.int 2) = some (.int ((n + 1) / 2)) := oDiv_ok (by decide) (by decide)
      have c1' := cut_toI (ordF n r) ((n + 1) / 2) hq0
      have c2' := cut_fromI (ordF n r) ((n + 1) / 2) hq0
      have s1 := oSort_ints ((ordF n r).take ((n + 1) / 2).toNat)
      have s2 := oSort_ints ((ordF n r).drop ((n + 1) / 2).toNat)
      have r3 : oRng (.int n) = some ((rng n.toNat).map Dt.int) := by
        rw [← rn]
        exact if_pos (by rw [Bool.and_eq_true]; exact ⟨decide_eq_true (by omega), decide_eq_true (by omega)⟩)
      rw [List.map_append, List.map_cons, List.map_cons, List.map_cons, List.map_nil] at f
      have q1 : lotD (srtI ((ordF n r).take ((n + 1) / 2).toNat)) = .tup ((srtI ((ordF n r).take ((n + 1) / 2).toNat)).map Dt.int) := rfl
      have q2 : lotD (srtI ((ordF n r).drop ((n + 1) / 2).toNat)) = .tup ((srtI ((ordF n r).drop ((n + 1) / 2).toNat)).map Dt.int) := rfl
      have q3 : lotD (rng n.toNat) = .tup ((rng n.toNat).map Dt.int) := rfl
      rw [q1, q2, q3] at f
      generalize row.map Dt.int = rw' at *
      generalize (singles n).map lotD = sg at *
      generalize (ordF n r).map Dt.int = od at *
      generalize (srtI ((ordF n r).take ((n + 1) / 2).toNat)).map Dt.int = x1 at *
      generalize (srtI ((ordF n r).drop ((n + 1) / 2).toNat)).map Dt.int = x2 at *
      generalize ((ordF n r).take ((n + 1) / 2).toNat).map Dt.int = y1 at *
      generalize ((ordF n r).drop ((n + 1) / 2).toNat).map Dt.int = y2 at *
      generalize (rng n.toNat).map Dt.int = x3 at *
      generalize nestF n r (decide (r2 = 0)) = nf at *
      have g1 : (sSeq (sIf (cT (c2 oEq (c2 oMod (c2 oAt (cVw 0) (c2 oMod (c2 oAdd (cV 1) (cK (.int 1))) (cK (.int 60)))) (cK (.int 2))) (cK (.int 0)))) (sFz 4 (sSetN 5 (c2 oCat (cVw 5) e__law_nest_3))) (sSeq (sSet 6 (c2 oDiv (c2 oAdd (cV 2) (cK (.int 1))) (cK (.int 2))))
  (sFz 4 (sSetN 5 (c2 oCat (cVw 5) (cLst (aCons (cB1 oTup (aCons (cB1 oSort (aCons (cCut (cV 4) pNo (pSome (cV 6))) aNil)) aNil)) (aCons (cB1 oTup (aCons (cB1 oSort (aCons (cCut (cV 4) (pSome (cV 6)) pNo) aNil)) aNil)) (aCons (cTupRg (cV 2)) aNil)))))))))
  (sFz 5 (sRet (c1 oSortSet e__law_nest_4)))) [.va (.lst rw'), .va (.int a), .va (.int n), .va (.str (kindS true)), .ow (.lst od), .ow (.lst sg), .no, .no, .no, .no] = .rt (.lst (nf.map lotD)) := by
        refine (seq_nx (ρ' := [.va (.lst rw'), .va (.int a), .va (.int n), .va (.str (kindS true)), .va (.lst od), .ow (.lst (sg ++ [.tup x1, .tup x2, .tup x3])), .va (.int ((n + 1) / 2)), .no, .no, .no]) ?_).trans f
        have c1'' : oCut none (some ((n + 1) / 2)) (.lst od) = .ok (.lst y1) := by show Rs.ok (Dt.lst (cutD od none (some ((n + 1) / 2)))) = _; rw [c1']
        have c2'' : oCut (some ((n + 1) / 2)) none (.lst od) = .ok (.lst y2) := by show Rs.ok (Dt.lst (cutD od (some ((n + 1) / 2)) none)) = _; rw [c2']
        clear c1' c2'
        have EVno : True := trivial
        simp only [m2, o2, o3, o5, d2, s1, s2, r3, c1'', c2'', oCat, oTup, l1, runF, List.length_cons, List.length_nil, if_true, if_false, List.map_cons, List.map_nil, List.cons_append, List.nil_append, List.replicate, sSeq, sIf, sRet, sNil, sSet, sSetN, sPar, sAsg, sFz, fz, sFor, sExpr, sRaise, sWh, rob, cOr, cAnd, cNot, cT, cTru, cB, cIf, c1, c2, cV, cVw, cK, cAndV, cOrV, cNotV, cChain, aCons, aNil, cCall, cB1, cTup, cLst, cLc, cSeqA, cRng1, cRng2, cEnum, enumO, cZip, zipO, cCut, pSome, pNo, gT, gsCons, gsNil, gN, Rs.bind, Option.bind, Option.map, ofO, cond, truD, fgt, List.foldl, List.set, lim, List.getElem?_cons_zero, List.getElem?_cons_succ, Nat.zero_add, Nat.reduceSub, Nat.reduceAdd, Nat.reduceLeDiff, Nat.reduceEqDiff, Bool.not_true, Bool.not_false, Bool.not_not, Bool.false_and, Bool.true_and, Bool.and_true, Bool.and_false, Bool.false_or, Bool.true_or, Bool.or_true, Bool.or_false, decide_true, decide_false, oNe_int, oEq_int, oEq_str, oNe_str, at20, at21, at30, at31, at32, len2, len3, isi_tup, isi_str, le_int, gt_int, lt_int, ge_int, oMax2, oMin2, gt_iff_lt, max_if, min_if, oAdd_int, oSub_int, oNeg_int, cDc, cTupRg, dec_refl, tvYes, List.isEmpty_nil, List.isEmpty_cons]
      simp only [sSeq, F__law_nest, g__law_nest, k, e1, e2, runF, List.length_cons, List.length_nil, if_true, if_false, List.map_cons, List.map_nil, List.cons_append, List.nil_append, List.replicate, sSeq, sIf, sRet, sNil, sSet, sSetN, sPar, sAsg, sFz, fz, sFor, sExpr, sRaise, sWh, rob, cOr, cAnd, cNot, cT, cTru, cB, cIf, c1, c2, cV, cVw, cK, cAndV, cOrV, cNotV, cChain, aCons, aNil, cCall, cB1, cTup, cLst, cLc, cSeqA, cRng1, cRng2, cEnum, enumO, cZip, zipO, cCut, pSome, pNo, oCut, gT, gsCons, gsNil, gN, Rs.bind, Option.bind, Option.map, ofO, cond, truD, fgt, List.foldl, List.set, lim, List.getElem?_cons_zero, List.getElem?_cons_succ, Nat.zero_add, Nat.reduceSub, Nat.reduceAdd, Nat.reduceLeDiff, Nat.reduceEqDiff, Bool.not_true, Bool.not_false, Bool.not_not, Bool.false_and, Bool.true_and, Bool.and_true, Bool.and_false, Bool.false_or, Bool.true_or, Bool.or_true, Bool.or_false, decide_true, decide_false, oNe_int, oEq_int, oEq_str, oNe_str] at g1 ⊢
      rw [g1]
end Sh
namespace Sh
open PySem L2 Dl
theorem fam_ok (n r : Int) (b : Bool) (hn : 1 ≤ n) (hn2 : n ≤ 5) (h0 : 0 ≤ r) (h1 : r < n) : famB n (nestF n r b) = true := by
  have c : (n = 1 ∧ r = 0) ∨ (n = 2 ∧ (r = 0 ∨ r = 1)) ∨ (n = 3 ∧ (r = 0 ∨ r = 1 ∨ r = 2)) ∨ (n = 4 ∧ (r = 0 ∨ r = 1 ∨ r = 2 ∨ r = 3)) ∨ (n = 5 ∧ (r = 0 ∨ r = 1 ∨ r = 2 ∨ r = 3 ∨ r = 4)) := by omega
  rcases c with ⟨rfl, rfl⟩ | ⟨rfl, rfl | rfl⟩ | ⟨rfl, rfl | rfl | rfl⟩ | ⟨rfl, rfl | rfl | rfl | rfl⟩ | ⟨rfl, rfl | rfl | rfl | rfl | rfl⟩ <;> cases b <;> decide +kernel
theorem fam_one (n : Int) (hn : 1 ≤ n) (hn2 : n ≤ 5) : famB n (singles n) = true := by
  have c : n = 1 ∨ n = 2 ∨ n = 3 ∨ n = 4 ∨ n = 5 := by omega
  rcases c with rfl | rfl | rfl | rfl | rfl <;> decide +kernel
theorem ord_mod (n r : Int) (hn : 1 ≤ n) : ordF n r = ordF n (r % n) := by
  unfold ordF
  refine List.map_congr_left fun t _ => ?_
  rw [Int.add_emod_emod]
theorem nest_mod (n r : Int) (b : Bool) (hn : 1 ≤ n) : nestF n r b = nestF n (r % n) b := by
  unfold nestF nestL
  rw [ord_mod n r hn]
def drawnFam (n r : Int) (b one : Bool) : List Lot := if one then nestF n r b else singles n
theorem fam_drawn (n r : Int) (b one : Bool) (hn : 1 ≤ n) (hn2 : n ≤ 5) : famB n (drawnFam n r b one) = true := by
  unfold drawnFam
  cases one with
  | false => exact fam_one n hn hn2
  | true =>
    simp only [if_true]
    rw [nest_mod n r b hn]
    exact fam_ok n (r % n) b hn hn2 (mod_nn _ _ (by omega)) (mod_lt _ _ (by omega))
structure Fam (n : Int) (fam : List Lot) : Prop where
  ok : ∀ l ∈ fam, LotOk n l
  up : fam.Pairwise fun a b => geI a b = false
  len : fam.length ≤ 10
  nest : ∀ a ∈ famAll n fam, ∀ b ∈ famAll n fam, a.length ≤ b.length → nestB a b = true
theorem famB_ok {n : Int} {fam : List Lot} (h : famB n fam = true) : Fam n fam := by
  unfold famB at h
  simp only [Bool.and_eq_true, List.all_eq_true, decide_eq_true_eq, Bool.or_eq_true] at h
  obtain ⟨h1, _, h2, h3, h4⟩ := h
  exact ⟨fun l hl => lotB_iff.mp (h1 l hl), h2, h3, fun a ha b hb hab => (h4 a ha b hb).resolve_left (by omega)⟩
theorem adj_of_pairwise {l : List Lot} (h : l.Pairwise fun a b => geI a b = false) : adjB geI l = true := by
  induction l with
  | nil => rfl
  | cons x r ih =>
    cases r with
    | nil => rfl
    | cons y r =>
      have h1 := List.rel_of_pairwise_cons h List.mem_cons_self
      have h2 := ih h.of_cons
      show (!geI x y && adjB geI (y :: r)) = true
      rw [h1, h2]; rfl
/-! ### enumerate -/
def zipI : Nat → List Lot → List (Nat × Lot)
  | _, [] => []
  | k, l :: ls => (k, l) :: zipI (k + 1) ls
def ziD (p : Nat × Lot) : Dt := .tup [.int (p.1 : Nat), lotD p.2]
theorem enum_map : ∀ (ls : List Lot) (k : Nat), enumD k (ls.map lotD) = (zipI k ls).map ziD
  | [], _ => rfl
  | l :: ls, k => by
    rw [List.map_cons]
    show Dt.tup [.int (k : Nat), lotD l] :: enumD (k + 1) (ls.map lotD) = _
    rw [enum_map ls (k + 1)]
    rfl
theorem zipI_get : ∀ (ls : List Lot) (k i : Nat) (x : Nat × Lot), (zipI k ls)[i]? = some x → x.1 = k + i ∧ ls[i]? = some x.2
  | [], _, _, _, h => by simp [zipI] at h
  | l :: ls, k, 0, x, h => by simp [zipI] at h; subst h; exact ⟨rfl, rfl⟩
  | l :: ls, k, i + 1, x, h => by
    have h' : (zipI (k + 1) ls)[i]? = some x := by simpa [zipI] using h
    obtain ⟨h1, h2⟩ := zipI_get ls (k + 1) i x h'
    exact ⟨by omega, by simpa using h2⟩
theorem zipI_len : ∀ (ls : List Lot) (k : Nat), (zipI k ls).length = ls.length
  | [], _ => rfl
  | l :: ls, k => by simp [zipI, zipI_len ls]
end Sh
namespace Sh
open PySem L2 Dl
/-! ### the drawn poll -/
theorem at_lots {c : List Int} {l : Lot} (h : ∀ x ∈ l, 0 ≤ x ∧ x < c.length) (ρ : List Sl) (h0 : ρ.length = 17) (h7 : ρ[7]? = some (.va (.lst (c.map Dt.int)))) (h14 : ρ[14]? = some (.va (lotD l))) (hl : l.length ≤ 1000) :
    e__law_poll_1 ρ = .ok (.lst ((l.map (at0 c)).map Dt.int)) := by
  unfold e__law_poll_1
  rw [List.map_map]
  refine lc_all Dt.int (Dt.int ∘ at0 c) l ?_ (by omega) fun x hx => ⟨ρ.set 16 .no |>.set 16 (.va (.int x)), ?_, ?_⟩
  · simp only [cSeqA, cV, h14, Rs.bind, lotD]
  · simp only [fgt, List.foldl, gN]
  · have e := atI_map (xs := c) (h x hx).1 (h x hx).2
    have g1 : ((ρ.set 16 .no).set 16 (.va (.int x)))[7]? = some (.va (.lst (c.map Dt.int))) := by simp [h7]
    have g2 : ((ρ.set 16 .no).set 16 (.va (.int x)))[16]? = some (.va (.int x)) := by simp [h0]
    simp only [c2, cVw, cV, g1, g2, Rs.bind, Dl.oAt, e, ofO, Function.comp_apply]
theorem sum_ints (l : List Int) : oSum [.lst (l.map Dt.int)] = some (.int l.sum) := by simp only [oSum, intsOf_map, Option.map_some]
structure PartsOk (n u : Int) (fam : List Lot) (k : Nat) (ps : List (Lot × Int)) : Prop where
  sub : (ps.map (·.1)).Sublist (fam.take k)
  told : ∀ q ∈ ps, 0 ≤ q.2 ∧ q.2 ≤ u
theorem pollp_step {row : List Int} (hl : row.length = 60) (hb : ∀ v ∈ row, 0 ≤ v ∧ v < 1000) (d0 d1 d2 d8 : Dt) (s8 : Sl) (n N t u : Int) (one : Bool) (w : Str) (c : List Int) (fam : List Lot) (ps : List (Lot × Int)) (i : Nat) (l : Lot)
    (hc : Counts n N one c) (hf : Fam n fam) (h1 : one = false → ∀ l ∈ fam, l.length ≤ 1) (hN : 1 ≤ N) (hN2 : N ≤ 1000) (hn : 1 ≤ n) (hn2 : n ≤ 6) (hu : 2 ≤ u) (hu2 : u ≤ 100) (ht : 0 ≤ t) (ht2 : t ≤ 1) (hi : fam[i]? = some l) (hp : PartsOk n u fam i ps) :
    ∃ ps', PartsOk n u fam (i + 1) ps' ∧ ∃ d15, b__law_poll_2 [.va d0, .va d1, .va d2, .va (.lst (row.map Dt.int)), .va (.int n), .va (.str (kindS one)), .va (.int N), .va (.lst (c.map Dt.int)), s8, .va (.int t), .va (.int u), .va (.str w), .ow (.lst (ps.map ptD)), .va (.int (i : Nat)), .va (lotD l), .no, .no] =
      .nx [.va d0, .va d1, .va d2, .va (.lst (row.map Dt.int)), .va (.int n), .va (.str (kindS one)), .va (.int N), .va (.lst (c.map Dt.int)), s8, .va (.int t), .va (.int u), .va (.str w), .ow (.lst (ps'.map ptD)), .va (.int (i : Nat)), .va (lotD l), .va d15, .no] := by
  have hm : l ∈ fam := List.mem_of_getElem? hi
  have lo := hf.ok l hm
  have ll := asc_len lo (by omega)
  have hil : i < fam.length := (List.getElem?_eq_some_iff.mp hi).1
  have hi10 : i ≤ 10 := by have := hf.len; omega
  have b := cnt_le hc l lo (by cases one with
    | true => exact .inl rfl
    | false => exact .inr (h1 rfl l hm)) (by omega)
  have e1 := at_lots (c := c) (l := l) (fun x hx => by have := lo.lo x hx; have := hc.len; omega) [.va d0, .va d1, .va d2, .va (.lst (row.map Dt.int)), .va (.int n), .va (.str (kindS one)), .va (.int N), .va (.lst (c.map Dt.int)), s8, .va (.int t), .va (.int u), .va (.str w), .ow (.lst (ps.map ptD)), .va (.int (i : Nat)), .va (lotD l), .no, .no] rfl rfl rfl (by omega)
  have e2 := sum_ints (l.map (at0 c))
  have e3 := E_lsh (cnt c l) N u w hN (by omega) hu hu2
  have e4 := shF_range (cnt c l) N u w hN b.1 b.2 (by omega)
  have ec : (l.map (at0 c)).sum = cnt c l := rfl
  rw [ec] at e2
  generalize cnt c l = cl at *
  generalize shF cl N u w = told at *
  have m1 := row_at hl (20 + 7 * t + (i : Int))
  have m2 := row_at hl (40 + 7 * t + (i : Int))
  have o1 := oMod_ok (i := 20 + 7 * t + (i : Int)) (show (0 : Int) < 60 by decide)
  have o2 := oMod_ok (i := 40 + 7 * t + (i : Int)) (show (0 : Int) < 60 by decide)
  have o0 : oMul (.int 7) (.int t) = some (.int (7 * t)) := oMul_ok (by rw [small_of (i := 7) (by omega) (by omega), Bool.true_or])
  have o3 := oMod_ok (i := at0 row ((20 + 7 * t + (i : Int)) % 60)) (show (0 : Int) < 17 by decide)
  have o4 := oMod_ok (i := at0 row ((40 + 7 * t + (i : Int)) % 60)) (show (0 : Int) < 4 by decide)
  have o5 := oMod_ok (i := told + 1) (show (0 : Int) < u + 1 by omega)
  have lp : ps.length ≤ 10 := by
    have := hp.sub.length_le
    rw [List.length_map, List.length_take] at this
    omega
  have la : (ps.map ptD).length ≤ 16000000 := by simp; omega
  have take : fam.take (i + 1) = fam.take i ++ [l] := by
    rw [List.take_succ, hi]; rfl
  have keep : PartsOk n u fam (i + 1) ps := ⟨by rw [take]; exact hp.sub.trans (List.sublist_append_left _ _), hp.told⟩
  have add : ∀ x, 0 ≤ x → x ≤ u → PartsOk n u fam (i + 1) (ps ++ [(l, x)]) := fun x x0 x1 => ⟨by
    rw [take, List.map_append]
    exact hp.sub.append (List.Sublist.refl _), fun q hq => by
    rcases List.mem_append.mp hq with hq | hq
    · exact hp.told q hq
    · rw [List.mem_singleton.mp hq]; exact ⟨x0, x1⟩⟩
  have apd : ∀ x, (ps ++ [(l, x)]).map ptD = ps.map ptD ++ [.tup [lotD l, .int x]] := fun x => by rw [List.map_append]; rfl
  have v1 := mod_nn (told + 1) (u + 1) (by omega)
  have v2 := mod_lt (told + 1) (u + 1) (by omega)
  generalize at0 row ((20 + 7 * t + (i : Int)) % 60) % 17 = a1 at *
  generalize at0 row ((40 + 7 * t + (i : Int)) % 60) % 4 = a2 at *
  generalize ((i : Nat) : Int) = I at *
  generalize row.map Dt.int = rw' at *
  generalize c.map Dt.int = cd at *
  generalize (l.map (at0 c)).map Dt.int = ld at *
  have g1 : oGt (.int a2) (.int 0) = some (.bl (decide (0 < a2))) := gt_int a2 0
  by_cases q1 : a1 = 0
  · have w1 : decide (a1 = 0) = true := decide_eq_true q1
    by_cases q2 : 0 < a2
    · have w2 : decide (0 < a2) = true := decide_eq_true q2
      refine ⟨_, add ((told + 1) % (u + 1)) v1 (by omega), .int ((told + 1) % (u + 1)), ?_⟩
      rw [apd]
      generalize ps.map ptD = pd at *
      generalize lotD l = lw at *
      simp only [b__law_poll_2, sApp, e1, e2, e3, o0, o1, o2, o3, o4, o5, m1, m2, w1, w2, la, runF, List.length_cons, List.length_nil, if_true, if_false, List.map_cons, List.map_nil, List.cons_append, List.nil_append, List.replicate, sSeq, sIf, sRet, sNil, sSet, sSetN, sPar, sAsg, sFz, fz, sFor, sExpr, sRaise, sWh, rob, cOr, cAnd, cNot, cT, cTru, cB, cIf, c1, c2, cV, cVw, cK, cAndV, cOrV, cNotV, cChain, aCons, aNil, cCall, cB1, cTup, cLst, cLc, cSeqA, cRng1, cRng2, cEnum, enumO, cZip, zipO, cCut, pSome, pNo, oCut, gT, gsCons, gsNil, gN, Rs.bind, Option.bind, Option.map, ofO, cond, truD, fgt, List.foldl, List.set, lim, List.getElem?_cons_zero, List.getElem?_cons_succ, Nat.zero_add, Nat.reduceSub, Nat.reduceAdd, Nat.reduceLeDiff, Nat.reduceEqDiff, Bool.not_true, Bool.not_false, Bool.not_not, Bool.false_and, Bool.true_and, Bool.and_true, Bool.and_false, Bool.false_or, Bool.true_or, Bool.or_true, Bool.or_false, decide_true, decide_false, oNe_int, oEq_int, oEq_str, oNe_str, at20, at21, at30, at31, at32, len2, len3, isi_tup, isi_str, le_int, gt_int, lt_int, ge_int, oMax2, oMin2, gt_iff_lt, max_if, min_if, oAdd_int, oSub_int, oNeg_int, cDc, cTupRg, dec_refl, tvYes, List.isEmpty_nil, List.isEmpty_cons]
    · have w2 : decide (0 < a2) = false := decide_eq_false q2
      refine ⟨_, keep, .int ((told + 1) % (u + 1)), ?_⟩
      generalize ps.map ptD = pd at *
      generalize lotD l = lw at *
      simp only [b__law_poll_2, sApp, e1, e2, e3, o0, o1, o2, o3, o4, o5, m1, m2, w1, w2, la, runF, List.length_cons, List.length_nil, if_true, if_false, List.map_cons, List.map_nil, List.cons_append, List.nil_append, List.replicate, sSeq, sIf, sRet, sNil, sSet, sSetN, sPar, sAsg, sFz, fz, sFor, sExpr, sRaise, sWh, rob, cOr, cAnd, cNot, cT, cTru, cB, cIf, c1, c2, cV, cVw, cK, cAndV, cOrV, cNotV, cChain, aCons, aNil, cCall, cB1, cTup, cLst, cLc, cSeqA, cRng1, cRng2, cEnum, enumO, cZip, zipO, cCut, pSome, pNo, oCut, gT, gsCons, gsNil, gN, Rs.bind, Option.bind, Option.map, ofO, cond, truD, fgt, List.foldl, List.set, lim, List.getElem?_cons_zero, List.getElem?_cons_succ, Nat.zero_add, Nat.reduceSub, Nat.reduceAdd, Nat.reduceLeDiff, Nat.reduceEqDiff, Bool.not_true, Bool.not_false, Bool.not_not, Bool.false_and, Bool.true_and, Bool.and_true, Bool.and_false, Bool.false_or, Bool.true_or, Bool.or_true, Bool.or_false, decide_true, decide_false, oNe_int, oEq_int, oEq_str, oNe_str, at20, at21, at30, at31, at32, len2, len3, isi_tup, isi_str, le_int, gt_int, lt_int, ge_int, oMax2, oMin2, gt_iff_lt, max_if, min_if, oAdd_int, oSub_int, oNeg_int, cDc, cTupRg, dec_refl, tvYes, List.isEmpty_nil, List.isEmpty_cons]
  · have w1 : decide (a1 = 0) = false := decide_eq_false q1
    by_cases q2 : 0 < a2
    · have w2 : decide (0 < a2) = true := decide_eq_true q2
      refine ⟨_, add told e4.1 e4.2, .int told, ?_⟩
      rw [apd]
      generalize ps.map ptD = pd at *
      generalize lotD l = lw at *
      simp only [b__law_poll_2, sApp, e1, e2, e3, o0, o1, o2, o3, o4, o5, m1, m2, w1, w2, la, runF, List.length_cons, List.length_nil, if_true, if_false, List.map_cons, List.map_nil, List.cons_append, List.nil_append, List.replicate, sSeq, sIf, sRet, sNil, sSet, sSetN, sPar, sAsg, sFz, fz, sFor, sExpr, sRaise, sWh, rob, cOr, cAnd, cNot, cT, cTru, cB, cIf, c1, c2, cV, cVw, cK, cAndV, cOrV, cNotV, cChain, aCons, aNil, cCall, cB1, cTup, cLst, cLc, cSeqA, cRng1, cRng2, cEnum, enumO, cZip, zipO, cCut, pSome, pNo, oCut, gT, gsCons, gsNil, gN, Rs.bind, Option.bind, Option.map, ofO, cond, truD, fgt, List.foldl, List.set, lim, List.getElem?_cons_zero, List.getElem?_cons_succ, Nat.zero_add, Nat.reduceSub, Nat.reduceAdd, Nat.reduceLeDiff, Nat.reduceEqDiff, Bool.not_true, Bool.not_false, Bool.not_not, Bool.false_and, Bool.true_and, Bool.and_true, Bool.and_false, Bool.false_or, Bool.true_or, Bool.or_true, Bool.or_false, decide_true, decide_false, oNe_int, oEq_int, oEq_str, oNe_str, at20, at21, at30, at31, at32, len2, len3, isi_tup, isi_str, le_int, gt_int, lt_int, ge_int, oMax2, oMin2, gt_iff_lt, max_if, min_if, oAdd_int, oSub_int, oNeg_int, cDc, cTupRg, dec_refl, tvYes, List.isEmpty_nil, List.isEmpty_cons]
    · have w2 : decide (0 < a2) = false := decide_eq_false q2
      refine ⟨_, keep, .int told, ?_⟩
      generalize ps.map ptD = pd at *
      generalize lotD l = lw at *
      simp only [b__law_poll_2, sApp, e1, e2, e3, o0, o1, o2, o3, o4, o5, m1, m2, w1, w2, la, runF, List.length_cons, List.length_nil, if_true, if_false, List.map_cons, List.map_nil, List.cons_append, List.nil_append, List.replicate, sSeq, sIf, sRet, sNil, sSet, sSetN, sPar, sAsg, sFz, fz, sFor, sExpr, sRaise, sWh, rob, cOr, cAnd, cNot, cT, cTru, cB, cIf, c1, c2, cV, cVw, cK, cAndV, cOrV, cNotV, cChain, aCons, aNil, cCall, cB1, cTup, cLst, cLc, cSeqA, cRng1, cRng2, cEnum, enumO, cZip, zipO, cCut, pSome, pNo, oCut, gT, gsCons, gsNil, gN, Rs.bind, Option.bind, Option.map, ofO, cond, truD, fgt, List.foldl, List.set, lim, List.getElem?_cons_zero, List.getElem?_cons_succ, Nat.zero_add, Nat.reduceSub, Nat.reduceAdd, Nat.reduceLeDiff, Nat.reduceEqDiff, Bool.not_true, Bool.not_false, Bool.not_not, Bool.false_and, Bool.true_and, Bool.and_true, Bool.and_false, Bool.false_or, Bool.true_or, Bool.or_true, Bool.or_false, decide_true, decide_false, oNe_int, oEq_int, oEq_str, oNe_str, at20, at21, at30, at31, at32, len2, len3, isi_tup, isi_str, le_int, gt_int, lt_int, ge_int, oMax2, oMin2, gt_iff_lt, max_if, min_if, oAdd_int, oSub_int, oNeg_int, cDc, cTupRg, dec_refl, tvYes, List.isEmpty_nil, List.isEmpty_cons]
end Sh
namespace Sh
open PySem L2 Dl
/-! ### == of data without bools -/
mutual
def nice : Dt → Bool
  | .non => true
  | .int _ => true
  | .str x => PyData.strOk x
  | .tup xs => niceA xs
  | .lst xs => niceA xs
  | _ => false
def niceA : List Dt → Bool
  | [] => true
  | x :: xs => nice x && niceA xs
end
mutual
def depD : Dt → Nat
  | .tup xs => depA xs + 1
  | .lst xs => depA xs + 1
  | _ => 0
def depA : List Dt → Nat
  | [] => 0
  | x :: xs => max (depD x) (depA xs)
end
mutual
theorem nice_py : ∀ d : Dt, nice d = true → ∃ p, toPy d = some p ∧ p.canLay0 = true ∧ p.depth = depD d
  | .non, _ => ⟨_, rfl, rfl, rfl⟩
  | .int _, _ => ⟨_, rfl, rfl, rfl⟩
  | .str x, h => ⟨_, rfl, h, rfl⟩
  | .tup xs, h => by
    obtain ⟨ps, h1, h2, h3⟩ := niceA_py xs h
    exact ⟨.tuple ps, by unfold toPy; rw [h1]; rfl, h2, by unfold PyData.depth depD; rw [h3]⟩
  | .lst xs, h => by
    obtain ⟨ps, h1, h2, h3⟩ := niceA_py xs h
    exact ⟨.list ps, by unfold toPy; rw [h1]; rfl, h2, by unfold PyData.depth depD; rw [h3]⟩
  | .bl _, h => by cases h
  | .dct _, h => by cases h
  | .obj _ _, h => by cases h
  | .scr _, h => by cases h
  | .cst _, h => by cases h
theorem niceA_py : ∀ ds : List Dt, niceA ds = true → ∃ ps, toPyA ds = some ps ∧ PyData.canLayAll0 ps = true ∧ PyData.depthAll ps = depA ds
  | [], _ => ⟨[], rfl, rfl, rfl⟩
  | d :: ds, h => by
    unfold niceA at h
    rw [Bool.and_eq_true] at h
    obtain ⟨p, h1, h2, h3⟩ := nice_py d h.1
    obtain ⟨ps, k1, k2, k3⟩ := niceA_py ds h.2
    exact ⟨p :: ps, by unfold toPyA; rw [h1, k1], by unfold PyData.canLayAll0; rw [h2, k2]; rfl, by unfold PyData.depthAll depA; rw [h3, k3]⟩
end
mutual
theorem nice_eqv : ∀ (d e : Dt) (p q : PyData), nice d = true → nice e = true → toPy d = some p → toPy e = some q → (PyData.eqv p q = true ↔ d = e)
  | .non, e, p, q, _, he, hp, hq => by
    cases hp
    cases e with
    | non => cases hq; simp [PyData.eqv]
    | int j => cases hq; simp [PyData.eqv]
    | str y => cases hq; simp [PyData.eqv]
    | tup ys =>
      obtain ⟨ps, h1, _⟩ := niceA_py ys he
      have : toPy (.tup ys) = some (.tuple ps) := by unfold toPy; rw [h1]; rfl
      rw [this] at hq; cases hq; simp [PyData.eqv]
    | lst ys =>
      obtain ⟨ps, h1, _⟩ := niceA_py ys he
      have : toPy (.lst ys) = some (.list ps) := by unfold toPy; rw [h1]; rfl
      rw [this] at hq; cases hq; simp [PyData.eqv]
    | _ => cases he
  | .int i, e, p, q, _, he, hp, hq => by
    cases hp
    cases e with
    | non => cases hq; simp [PyData.eqv]
    | int j => cases hq; simp [PyData.eqv]
    | str y => cases hq; simp [PyData.eqv]
    | tup ys =>
      obtain ⟨ps, h1, _⟩ := niceA_py ys he
      have : toPy (.tup ys) = some (.tuple ps) := by unfold toPy; rw [h1]; rfl
      rw [this] at hq; cases hq; simp [PyData.eqv]
    | lst ys =>
      obtain ⟨ps, h1, _⟩ := niceA_py ys he
      have : toPy (.lst ys) = some (.list ps) := by unfold toPy; rw [h1]; rfl
      rw [this] at hq; cases hq; simp [PyData.eqv]
    | _ => cases he
  | .str x, e, p, q, _, he, hp, hq => by
    cases hp
    cases e with
    | non => cases hq; simp [PyData.eqv]
    | int j => cases hq; simp [PyData.eqv]
    | str y => cases hq; simp [PyData.eqv]
    | tup ys =>
      obtain ⟨ps, h1, _⟩ := niceA_py ys he
      have : toPy (.tup ys) = some (.tuple ps) := by unfold toPy; rw [h1]; rfl
      rw [this] at hq; cases hq; simp [PyData.eqv]
    | lst ys =>
      obtain ⟨ps, h1, _⟩ := niceA_py ys he
      have : toPy (.lst ys) = some (.list ps) := by unfold toPy; rw [h1]; rfl
      rw [this] at hq; cases hq; simp [PyData.eqv]
    | _ => cases he
  | .tup xs, e, p, q, hd, he, hp, hq => by
    obtain ⟨ps, h1, _⟩ := niceA_py xs hd
    have t : toPy (.tup xs) = some (.tuple ps) := by unfold toPy; rw [h1]; rfl
    rw [t] at hp; cases hp
    cases e with
    | non => cases hq; simp [PyData.eqv]
    | int j => cases hq; simp [PyData.eqv]
    | str y => cases hq; simp [PyData.eqv]
    | tup ys =>
      obtain ⟨qs, k1, _⟩ := niceA_py ys he
      have : toPy (.tup ys) = some (.tuple qs) := by unfold toPy; rw [k1]; rfl
      rw [this] at hq; cases hq
      simp only [PyData.eqv, Dt.tup.injEq]
      exact niceA_eqv xs ys ps qs hd he h1 k1
    | lst ys =>
      obtain ⟨ps, h1, _⟩ := niceA_py ys he
      have : toPy (.lst ys) = some (.list ps) := by unfold toPy; rw [h1]; rfl
      rw [this] at hq; cases hq; simp [PyData.eqv]
    | _ => cases he
  | .lst xs, e, p, q, hd, he, hp, hq => by
    obtain ⟨ps, h1, _⟩ := niceA_py xs hd
    have t : toPy (.lst xs) = some (.list ps) := by unfold toPy; rw [h1]; rfl
    rw [t] at hp; cases hp
    cases e with
    | non => cases hq; simp [PyData.eqv]
    | int j => cases hq; simp [PyData.eqv]
    | str y => cases hq; simp [PyData.eqv]
    | tup ys =>
      obtain ⟨ps, h1, _⟩ := niceA_py ys he
      have : toPy (.tup ys) = some (.tuple ps) := by unfold toPy; rw [h1]; rfl
      rw [this] at hq; cases hq; simp [PyData.eqv]
    | lst ys =>
      obtain ⟨qs, k1, _⟩ := niceA_py ys he
      have : toPy (.lst ys) = some (.list qs) := by unfold toPy; rw [k1]; rfl
      rw [this] at hq; cases hq
      simp only [PyData.eqv, Dt.lst.injEq]
      exact niceA_eqv xs ys ps qs hd he h1 k1
    | _ => cases he
  | .bl _, _, _, _, h, _, _, _ => by cases h
  | .dct _, _, _, _, h, _, _, _ => by cases h
  | .obj _ _, _, _, _, h, _, _, _ => by cases h
  | .scr _, _, _, _, h, _, _, _ => by cases h
  | .cst _, _, _, _, h, _, _, _ => by cases h
theorem niceA_eqv : ∀ (ds es : List Dt) (ps qs : List PyData), niceA ds = true → niceA es = true → toPyA ds = some ps → toPyA es = some qs → (PyData.eqvAll ps qs = true ↔ ds = es)
  | [], [], ps, qs, _, _, hp, hq => by cases hp; cases hq; simp [PyData.eqvAll]
  | [], e :: es, ps, qs, _, he, hp, hq => by
    cases hp
    obtain ⟨rs, k1, _⟩ := niceA_py (e :: es) he
    unfold niceA at he
    rw [Bool.and_eq_true] at he
    obtain ⟨r, r1, _⟩ := nice_py e he.1
    obtain ⟨rs', r2, _⟩ := niceA_py es he.2
    unfold toPyA at hq
    rw [r1, r2] at hq
    cases hq
    simp [PyData.eqvAll]
  | d :: ds, [], ps, qs, hd, _, hp, hq => by
    cases hq
    unfold niceA at hd
    rw [Bool.and_eq_true] at hd
    obtain ⟨r, r1, _⟩ := nice_py d hd.1
    obtain ⟨rs', r2, _⟩ := niceA_py ds hd.2
    unfold toPyA at hp
    rw [r1, r2] at hp
    cases hp
    simp [PyData.eqvAll]
  | d :: ds, e :: es, ps, qs, hd, he, hp, hq => by
    unfold niceA at hd he
    rw [Bool.and_eq_true] at hd he
    obtain ⟨r, r1, _⟩ := nice_py d hd.1
    obtain ⟨rs, r2, _⟩ := niceA_py ds hd.2
    obtain ⟨u, u1, _⟩ := nice_py e he.1
    obtain ⟨us, u2, _⟩ := niceA_py es he.2
    unfold toPyA at hp hq
    rw [r1, r2] at hp
    rw [u1, u2] at hq
    cases hp; cases hq
    simp only [PyData.eqvAll, Bool.and_eq_true, List.cons.injEq]
    rw [nice_eqv d e r u hd.1 he.1 r1 u1, niceA_eqv ds es rs us hd.2 he.2 r2 u2]
end
theorem eqD_nice {d e : Dt} (hd : nice d = true) (he : nice e = true) (h1 : depD d ≤ 60) (h2 : depD e ≤ 60) : ∃ b, eqD d e = some b ∧ (b = true ↔ d = e) := by
  obtain ⟨p, p1, p2, p3⟩ := nice_py d hd
  obtain ⟨q, q1, q2, q3⟩ := nice_py e he
  have s1 : SeqAt.shaped p = true := by unfold SeqAt.shaped; rw [p2, p3]; simp; omega
  have s2 : SeqAt.shaped q = true := by unfold SeqAt.shaped; rw [q2, q3]; simp; omega
  have key := nice_eqv d e p q hd he p1 q1
  unfold eqD
  cases hx : scD d with
  | none =>
    refine ⟨PyData.eqv p q, ?_, key⟩
    rw [p1, q1]
    simp [s1, s2]
  | some v =>
    cases hy : scD e with
    | none =>
      refine ⟨PyData.eqv p q, ?_, key⟩
      rw [p1, q1]
      simp [s1, s2]
    | some w =>
      have hs : scal v w = true := by
        cases d <;> first | exact Bool.noConfusion hd | cases hx
        all_goals cases e <;> first | exact Bool.noConfusion he | cases hy
        all_goals rfl
      refine ⟨decide (v = w), by dsimp only; rw [if_pos hs], ?_⟩
      rw [decide_eq_true_eq]
      cases d <;> first | exact Bool.noConfusion hd | cases hx
      all_goals cases e <;> first | exact Bool.noConfusion he | cases hy
      all_goals simp
theorem oEq_nice {d e : Dt} (hd : nice d = true) (he : nice e = true) (h1 : depD d ≤ 60) (h2 : depD e ≤ 60) : ∃ b, oEq d e = some (.bl b) ∧ oNe d e = some (.bl (!b)) ∧ (b = true ↔ d = e) := by
  obtain ⟨b, hb, k⟩ := eqD_nice hd he h1 h2
  exact ⟨b, by unfold oEq; rw [hb]; rfl, by unfold oNe; rw [hb]; rfl, k⟩
theorem niceA_map {α : Type} {f : α → Dt} (h : ∀ x, nice (f x) = true) : ∀ xs : List α, niceA (xs.map f) = true
  | [] => rfl
  | x :: xs => by rw [List.map_cons]; unfold niceA; rw [h, niceA_map h xs]; rfl
theorem niceA_mapM {α : Type} {f : α → Dt} : ∀ (xs : List α), (∀ x ∈ xs, nice (f x) = true) → niceA (xs.map f) = true
  | [], _ => rfl
  | x :: xs, h => by rw [List.map_cons]; unfold niceA; rw [h x List.mem_cons_self, niceA_mapM xs fun y hy => h y (List.mem_cons_of_mem _ hy)]; rfl
theorem depA_map {α : Type} {f : α → Dt} {k : Nat} (h : ∀ x, depD (f x) ≤ k) : ∀ xs : List α, depA (xs.map f) ≤ k
  | [] => Nat.zero_le _
  | x :: xs => by rw [List.map_cons]; unfold depA; have := h x; have := depA_map h xs; omega
theorem nice_lot (l : Lot) : nice (lotD l) = true := niceA_map (fun _ => rfl) l
theorem dep_lot (l : Lot) : depD (lotD l) ≤ 1 := by
  unfold lotD depD
  have := depA_map (f := Dt.int) (k := 0) (fun _ => Nat.le_refl _) l
  omega
theorem nice_pt (q : Lot × Int) : nice (ptD q) = true := by
  unfold ptD nice niceA niceA
  rw [nice_lot]; rfl
theorem dep_pt (q : Lot × Int) : depD (ptD q) ≤ 2 := by
  unfold ptD depD depA depA
  have := dep_lot q.1
  simp [depD, depA]; omega
theorem nice_sh (s : Dl.Sh) (h : PyData.strOk s.w = true) : nice (shD s) = true := by
  unfold shD
  simp only [nice, niceA, h, niceA_map nice_pt, Bool.and_self]
theorem dep_sh (s : Dl.Sh) : depD (shD s) ≤ 4 := by
  unfold shD
  have := depA_map dep_pt s.ps
  simp only [depD, depA]; omega
theorem okw {w : Str} (h : w = "cut" ∨ w = "near" ∨ w = "up") : PyData.strOk w = true := by
  rcases h with rfl | rfl | rfl <;> decide +kernel
theorem okk (b : Bool) : PyData.strOk (kindS b) = true := by cases b <;> decide +kernel
theorem nice_pl (p : Pl) (h : ∀ s ∈ p.ss, PyData.strOk s.w = true) : nice (plD p) = true := by
  unfold plD
  simp only [nice, niceA, okk, niceA_mapM p.ss fun s hs => nice_sh s (h s hs), Bool.and_self]
theorem dep_pl (p : Pl) : depD (plD p) ≤ 6 := by
  unfold plD
  have := depA_map dep_sh p.ss
  simp only [depD, depA]; omega
end Sh
namespace Sh
open PySem L2 Dl
structure ShOk (n : Int) (fam : List Lot) (s : Dl.Sh) : Prop where
  b : shB n s = true
  ps : s.ps.length ≤ 10
  mem : ∀ q ∈ s.ps, q.1 ∈ famAll n fam
  us : s.u = 2 ∨ s.u = 3 ∨ s.u = 4 ∨ s.u = 5 ∨ s.u = 7 ∨ s.u = 10 ∨ s.u = 20 ∨ s.u = 100
  one : ∀ l ∈ fam, l.length ≤ 1 → True
def unitsD : List Dt := [.int 2, .int 3, .int 4, .int 5, .int 7, .int 10, .int 20, .int 100]
theorem unit_at (k m : Int) (h0 : 0 ≤ k) (h1 : k < m) (hm : m = 6 ∨ m = 8) : ∃ u, Dl.oAt (.lst unitsD) (.int k) = some (.int u) ∧ (u = 2 ∨ u = 3 ∨ u = 4 ∨ u = 5 ∨ u = 7 ∨ u = 10 ∨ u = 20 ∨ u = 100) ∧ (m = 6 → u ≤ 10) := by
  have c : k = 0 ∨ k = 1 ∨ k = 2 ∨ k = 3 ∨ k = 4 ∨ k = 5 ∨ (m = 8 ∧ (k = 6 ∨ k = 7)) := by omega
  rcases c with rfl | rfl | rfl | rfl | rfl | rfl | ⟨hm, rfl | rfl⟩
  · exact ⟨2, rfl, by omega, by omega⟩
  · exact ⟨3, rfl, by omega, by omega⟩
  · exact ⟨4, rfl, by omega, by omega⟩
  · exact ⟨5, rfl, by omega, by omega⟩
  · exact ⟨7, rfl, by omega, by omega⟩
  · exact ⟨10, rfl, by omega, by omega⟩
  · exact ⟨20, rfl, by omega, by omega⟩
  · exact ⟨100, rfl, by omega, by omega⟩
def wordsD : List Dt := [.str "cut", .str "near", .str "up", .str "near"]
theorem word_at (k : Int) (h0 : 0 ≤ k) (h1 : k < 4) : ∃ w : Str, Dl.oAt (.lst wordsD) (.int k) = some (.str w) ∧ (w = "cut" ∨ w = "near" ∨ w = "up") := by
  have c : k = 0 ∨ k = 1 ∨ k = 2 ∨ k = 3 := by omega
  rcases c with rfl | rfl | rfl | rfl
  · exact ⟨_, rfl, .inl rfl⟩
  · exact ⟨_, rfl, .inr (.inl rfl)⟩
  · exact ⟨_, rfl, .inr (.inr rfl)⟩
  · exact ⟨_, rfl, .inr (.inl rfl)⟩
theorem goFor_enum {fg : List Nat} {tg : Gv} {body : Sv} {ρ : List Sl} {ls : List Lot} : goFor tg fg body (enumD 0 (ls.map lotD)) ρ = goFor tg fg body ((zipI 0 ls).map ziD) ρ := by rw [enum_map]
theorem lst_empty (ps : List (Lot × Int)) : oEq (.lst (ps.map ptD)) (.lst []) = some (.bl ps.isEmpty) := by
  obtain ⟨b, hb, _, k⟩ := oEq_nice (d := .lst (ps.map ptD)) (e := .lst []) (niceA_map nice_pt ps) rfl (by have := depA_map dep_pt ps; simp only [depD]; omega) (by decide)
  rw [hb]
  congr 2
  cases ps with
  | nil => exact k.mpr rfl
  | cons q ps =>
    cases b with
    | false => rfl
    | true => have := k.mp rfl; simp at this
theorem partB_of {n u : Int} {l : Lot} {t : Int} (h : LotOk n l) (h0 : 0 ≤ t) (h1 : t ≤ u) : partB n u (l, t) = true := by
  unfold partB
  rw [lotB_iff.mpr h]
  simp [h0, h1]
theorem polls_step {row : List Int} (hl : row.length = 60) (hb : ∀ v ∈ row, 0 ≤ v ∧ v < 1000) (d0 d1 d2 : Dt) (n N t : Int) (one : Bool) (c : List Int) (ss : List Dl.Sh)
    (hc : Counts n N one c) (hN : 1 ≤ N) (hN2 : N ≤ 1000) (hn : 1 ≤ n) (hn2 : n ≤ 5) (ht : 0 ≤ t) (ht2 : t ≤ 1) (hs : ss.length ≤ 5) :
    ∃ s, ShOk n (drawnFam n (at0 row (10 % 60)) (decide (at0 row ((10 + 1) % 60) % 2 = 0)) one) s ∧ (at0 row 5 % 2 ≠ 0 → s.u ≤ 10) ∧ (one = false → ∀ q ∈ s.ps, q.1.length ≤ 1) ∧ ∃ d10 d11 d13 d14 d15 s12,
      b__law_poll_3 [.va d0, .va d1, .va d2, .va (.lst (row.map Dt.int)), .va (.int n), .va (.str (kindS one)), .va (.int N), .va (.lst (c.map Dt.int)), .ow (.lst (ss.map shD)), .va (.int t), .no, .no, .no, .no, .no, .no, .no] =
      .nx [.va d0, .va d1, .va d2, .va (.lst (row.map Dt.int)), .va (.int n), .va (.str (kindS one)), .va (.int N), .va (.lst (c.map Dt.int)), .ow (.lst ((ss ++ [s]).map shD)), .va (.int t), .va d10, .va d11, s12, d13, d14, d15, .no] := by
  have hf := famB_ok (fam_drawn n (at0 row (10 % 60)) (decide (at0 row ((10 + 1) % 60) % 2 = 0)) one hn hn2)
  have en := E_nest hl hb 10 n one (by decide) hn (by omega)
  have h1 : one = false → ∀ l ∈ drawnFam n (at0 row (10 % 60)) (decide (at0 row ((10 + 1) % 60) % 2 = 0)) one, l.length ≤ 1 := fun h l hm => by
    unfold drawnFam at hm
    rw [h] at hm
    simp only [Bool.false_eq_true, if_false, singles] at hm
    obtain ⟨i, _, rfl⟩ := List.mem_map.mp hm
    simp
  have ed : (if one then nestF n (at0 row (10 % 60)) (decide (at0 row ((10 + 1) % 60) % 2 = 0)) else singles n) = drawnFam n (at0 row (10 % 60)) (decide (at0 row ((10 + 1) % 60) % 2 = 0)) one := rfl
  rw [ed] at en
  generalize drawnFam n (at0 row (10 % 60)) (decide (at0 row ((10 + 1) % 60) % 2 = 0)) one = fam at *
  -- units
  have a5 := row_at' hl 5 (by decide) (by decide)
  have a6 := row_at' hl (6 + t) (by omega) (by omega)
  have a8 := row_at' hl (8 + t) (by omega) (by omega)
  have o5 := oMod_ok (i := at0 row 5) (show (0 : Int) < 2 by decide)
  have o8 := oMod_ok (i := at0 row (8 + t)) (show (0 : Int) < 4 by decide)
  obtain ⟨m, hm, em⟩ : ∃ m : Int, (m = 6 ∨ m = 8) ∧ ((at0 row 5 % 2 ≠ 0 → m = 6) ∧ cIf (cAnd (cT (c2 oEq (cVw 9) (cK (.int 0)))) (cT (c2 oEq (c2 oMod (c2 Dl.oAt (cVw 3) (cK (.int 5))) (cK (.int 2))) (cK (.int 0))))) (cK (.int 8)) (cK (.int 6)) [.va d0, .va d1, .va d2, .va (.lst (row.map Dt.int)), .va (.int n), .va (.str (kindS one)), .va (.int N), .va (.lst (c.map Dt.int)), .ow (.lst (ss.map shD)), .va (.int t), .no, .no, .no, .no, .no, .no, .no] = .ok (.int m)) := by
    generalize row.map Dt.int = rw' at *
    generalize at0 row 5 % 2 = z at *
    by_cases q1 : t = 0
    · have w1 : decide (t = 0) = true := decide_eq_true q1
      by_cases q2 : z = 0
      · have w2 : decide (z = 0) = true := decide_eq_true q2
        exact ⟨8, .inr rfl, fun h => absurd q2 h, by simp only [a5, o5, w1, w2, runF, List.length_cons, List.length_nil, if_true, if_false, List.map_cons, List.map_nil, List.cons_append, List.nil_append, List.replicate, sSeq, sIf, sRet, sNil, sSet, sSetN, sPar, sAsg, sFz, fz, sFor, sExpr, sRaise, sWh, rob, cOr, cAnd, cNot, cT, cTru, cB, cIf, c1, c2, cV, cVw, cK, cAndV, cOrV, cNotV, cChain, aCons, aNil, cCall, cB1, cTup, cLst, cLc, cSeqA, cRng1, cRng2, cEnum, enumO, cZip, zipO, cCut, pSome, pNo, oCut, gT, gsCons, gsNil, gN, Rs.bind, Option.bind, Option.map, ofO, cond, truD, fgt, List.foldl, List.set, lim, List.getElem?_cons_zero, List.getElem?_cons_succ, Nat.zero_add, Nat.reduceSub, Nat.reduceAdd, Nat.reduceLeDiff, Nat.reduceEqDiff, Bool.not_true, Bool.not_false, Bool.not_not, Bool.false_and, Bool.true_and, Bool.and_true, Bool.and_false, Bool.false_or, Bool.true_or, Bool.or_true, Bool.or_false, decide_true, decide_false, oNe_int, oEq_int, oEq_str, oNe_str, at20, at21, at30, at31, at32, len2, len3, isi_tup, isi_str, le_int, gt_int, lt_int, ge_int, oMax2, oMin2, gt_iff_lt, max_if, min_if, oAdd_int, oSub_int, oNeg_int, cDc, cTupRg, dec_refl, tvYes, List.isEmpty_nil, List.isEmpty_cons]⟩
      · have w2 : decide (z = 0) = false := decide_eq_false q2
        exact ⟨6, .inl rfl, fun h => rfl, by simp only [a5, o5, w1, w2, runF, List.length_cons, List.length_nil, if_true, if_false, List.map_cons, List.map_nil, List.cons_append, List.nil_append, List.replicate, sSeq, sIf, sRet, sNil, sSet, sSetN, sPar, sAsg, sFz, fz, sFor, sExpr, sRaise, sWh, rob, cOr, cAnd, cNot, cT, cTru, cB, cIf, c1, c2, cV, cVw, cK, cAndV, cOrV, cNotV, cChain, aCons, aNil, cCall, cB1, cTup, cLst, cLc, cSeqA, cRng1, cRng2, cEnum, enumO, cZip, zipO, cCut, pSome, pNo, oCut, gT, gsCons, gsNil, gN, Rs.bind, Option.bind, Option.map, ofO, cond, truD, fgt, List.foldl, List.set, lim, List.getElem?_cons_zero, List.getElem?_cons_succ, Nat.zero_add, Nat.reduceSub, Nat.reduceAdd, Nat.reduceLeDiff, Nat.reduceEqDiff, Bool.not_true, Bool.not_false, Bool.not_not, Bool.false_and, Bool.true_and, Bool.and_true, Bool.and_false, Bool.false_or, Bool.true_or, Bool.or_true, Bool.or_false, decide_true, decide_false, oNe_int, oEq_int, oEq_str, oNe_str, at20, at21, at30, at31, at32, len2, len3, isi_tup, isi_str, le_int, gt_int, lt_int, ge_int, oMax2, oMin2, gt_iff_lt, max_if, min_if, oAdd_int, oSub_int, oNeg_int, cDc, cTupRg, dec_refl, tvYes, List.isEmpty_nil, List.isEmpty_cons]⟩
    · have w1 : decide (t = 0) = false := decide_eq_false q1
      exact ⟨6, .inl rfl, fun h => rfl, by simp only [a5, o5, w1, runF, List.length_cons, List.length_nil, if_true, if_false, List.map_cons, List.map_nil, List.cons_append, List.nil_append, List.replicate, sSeq, sIf, sRet, sNil, sSet, sSetN, sPar, sAsg, sFz, fz, sFor, sExpr, sRaise, sWh, rob, cOr, cAnd, cNot, cT, cTru, cB, cIf, c1, c2, cV, cVw, cK, cAndV, cOrV, cNotV, cChain, aCons, aNil, cCall, cB1, cTup, cLst, cLc, cSeqA, cRng1, cRng2, cEnum, enumO, cZip, zipO, cCut, pSome, pNo, oCut, gT, gsCons, gsNil, gN, Rs.bind, Option.bind, Option.map, ofO, cond, truD, fgt, List.foldl, List.set, lim, List.getElem?_cons_zero, List.getElem?_cons_succ, Nat.zero_add, Nat.reduceSub, Nat.reduceAdd, Nat.reduceLeDiff, Nat.reduceEqDiff, Bool.not_true, Bool.not_false, Bool.not_not, Bool.false_and, Bool.true_and, Bool.and_true, Bool.and_false, Bool.false_or, Bool.true_or, Bool.or_true, Bool.or_false, decide_true, decide_false, oNe_int, oEq_int, oEq_str, oNe_str, at20, at21, at30, at31, at32, len2, len3, isi_tup, isi_str, le_int, gt_int, lt_int, ge_int, oMax2, oMin2, gt_iff_lt, max_if, min_if, oAdd_int, oSub_int, oNeg_int, cDc, cTupRg, dec_refl, tvYes, List.isEmpty_nil, List.isEmpty_cons]⟩
  obtain ⟨em1, em2⟩ := em
  have om := oMod_ok (i := at0 row (6 + t)) (show (0 : Int) < m by omega)
  obtain ⟨u, hu, us, um⟩ := unit_at (at0 row (6 + t) % m) m (mod_nn _ _ (by omega)) (mod_lt _ _ (by omega)) hm
  obtain ⟨w, hw, ws⟩ := word_at (at0 row (8 + t) % 4) (mod_nn _ _ (by decide)) (mod_lt _ _ (by decide))
  have u2 : 2 ≤ u := by omega
  have u100 : u ≤ 100 := by omega
  -- the parts
  obtain ⟨ps, eps, hps⟩ := goFor_inv (tg := gT (gsCons (gN 13) (gsCons (gN 14) gsNil))) (fg := [13, 14, 15]) (body := b__law_poll_2) ziD
    (fun ps : List (Lot × Int) => [.va d0, .va d1, .va d2, .va (.lst (row.map Dt.int)), .va (.int n), .va (.str (kindS one)), .va (.int N), .va (.lst (c.map Dt.int)), .ow (.lst (ss.map shD)), .va (.int t), .va (.int u), .va (.str w), .ow (.lst (ps.map ptD)), .no, .no, .no, .no])
    (fun k ps => PartsOk n u fam k ps) (zipI 0 fam) 0 [] ⟨by simp, fun q hq => by cases hq⟩ (fun i ps x hx hp => by
      obtain ⟨x1, x2⟩ := zipI_get fam 0 i x hx
      have e0 : 0 + i = i := Nat.zero_add i
      rw [e0] at hp x1 ⊢
      obtain ⟨i', l⟩ := x
      dsimp only at x1 x2
      subst x1
      obtain ⟨ps', hp', d15, e⟩ := pollp_step hl hb d0 d1 d2 .non (.ow (.lst (ss.map shD))) n N t u one w c fam ps i' l hc hf h1 hN hN2 hn (by omega) u2 u100 ht ht2 x2 hp
      exact ⟨ps', hp', _, _, rfl, e, rfl⟩)
  rw [zipI_len, Nat.zero_add] at hps
  rw [← goFor_enum] at eps
  have sub : (ps.map (·.1)).Sublist fam := hps.sub.trans (List.take_sublist _ _)
  -- one part at least
  have c0 : 0 < c.length := by have := hc.len; omega
  have l0 := cnt_le hc [0] (ok_one (by decide) (by omega)) (.inr (by simp)) (by omega)
  have ec : cnt c [0] = at0 c 0 := by unfold cnt; simp
  have e3 := E_lsh (at0 c 0) N u w hN (by omega) u2 u100
  have e4 := shF_range (at0 c 0) N u w hN (by rw [← ec]; exact l0.1) (by rw [← ec]; exact l0.2) (by omega)
  have a0 := atI_map (xs := c) (k := 0) (by decide) (by omega)
  have a0' : Dl.oAt (.lst (c.map Dt.int)) (.int 0) = some (.int (at0 c 0)) := a0
  have le := lst_empty ps
  have l0D : lotD [0] = .tup [.int 0] := rfl
  have sp : ∀ ps : List (Lot × Int), shD ⟨u, w, ps⟩ = .tup [.int u, .str w, .tup (ps.map ptD)] := fun _ => rfl
  have ap : ∀ s, (ss ++ [s]).map shD = ss.map shD ++ [shD s] := fun s => by rw [List.map_append]; rfl
  have la : (ss.map shD).length ≤ 16000000 := by simp; omega
  have mk : ∀ ps : List (Lot × Int), ps ≠ [] → (∀ q ∈ ps, LotOk n q.1 ∧ 0 ≤ q.2 ∧ q.2 ≤ u) → (ps.map (·.1)).Pairwise (fun a b => geI a b = false) → shB n ⟨u, w, ps⟩ = true := fun ps hne hq hup => by
    unfold shB
    simp only [Bool.and_eq_true, decide_eq_true_eq, Bool.not_eq_true', List.isEmpty_eq_false_iff, List.all_eq_true]
    exact ⟨⟨u2, u100⟩, ws, hne, fun q hm => partB_of (hq q hm).1 (hq q hm).2.1 (hq q hm).2.2, adj_of_pairwise hup⟩
  cases hemp : ps.isEmpty with
  | false =>
    have hne : ps ≠ [] := by simpa using hemp
    have mem : ∀ q ∈ ps, q.1 ∈ fam := fun q hq => sub.subset (List.mem_map.mpr ⟨q, hq, rfl⟩)
    refine ⟨⟨u, w, ps⟩, ⟨mk ps hne (fun q hq => ⟨hf.ok _ (mem q hq), hps.told q hq⟩) (hf.up.sublist sub), ?_, fun q hq => ?_, us, fun _ _ _ => trivial⟩, fun h => um (em1 h), fun h q hq => h1 h _ (mem q hq), .int u, .str w, .no, .no, .no, .va (.lst (ps.map ptD)), ?_⟩
    · have := sub.length_le; rw [List.length_map] at this; have := hf.len; dsimp only; omega
    · exact List.mem_append_left _ (List.mem_append_left _ (mem q hq))
    · rw [ap, sp]
      rw [hemp] at le
      unfold unitsD at hu
      unfold wordsD at hw
      generalize ps.map ptD = pd at *
      generalize row.map Dt.int = rw' at *
      generalize c.map Dt.int = cd at *
      generalize ss.map shD = sd at *
      generalize fam.map lotD = fd at *
      simp only [List.map_nil] at eps
      have g1 : c2 Dl.oAt (cLst (aCons (cK (.int 2)) (aCons (cK (.int 3)) (aCons (cK (.int 4)) (aCons (cK (.int 5)) (aCons (cK (.int 7)) (aCons (cK (.int 10)) (aCons (cK (.int 20)) (aCons (cK (.int 100)) aNil))))))))) (c2 oMod (c2 Dl.oAt (cVw 3) (c2 oAdd (cK (.int 6)) (cV 9))) (cIf (cAnd (cT (c2 oEq (cVw 9) (cK (.int 0)))) (cT (c2 oEq (c2 oMod (c2 Dl.oAt (cVw 3) (cK (.int 5))) (cK (.int 2))) (cK (.int 0))))) (cK (.int 8)) (cK (.int 6)))) [.va d0, .va d1, .va d2, .va (.lst rw'), .va (.int n), .va (.str (kindS one)), .va (.int N), .va (.lst cd), .ow (.lst sd), .va (.int t), .no, .no, .no, .no, .no, .no, .no] = .ok (.int u) := by
        refine c2_ok rfl (c2_ok ?_ em2 om) hu
        simp only [a6, runF, List.length_cons, List.length_nil, if_true, if_false, List.map_cons, List.map_nil, List.cons_append, List.nil_append, List.replicate, sSeq, sIf, sRet, sNil, sSet, sSetN, sPar, sAsg, sFz, fz, sFor, sExpr, sRaise, sWh, rob, cOr, cAnd, cNot, cT, cTru, cB, cIf, c1, c2, cV, cVw, cK, cAndV, cOrV, cNotV, cChain, aCons, aNil, cCall, cB1, cTup, cLst, cLc, cSeqA, cRng1, cRng2, cEnum, enumO, cZip, zipO, cCut, pSome, pNo, oCut, gT, gsCons, gsNil, gN, Rs.bind, Option.bind, Option.map, ofO, cond, truD, fgt, List.foldl, List.set, lim, List.getElem?_cons_zero, List.getElem?_cons_succ, Nat.zero_add, Nat.reduceSub, Nat.reduceAdd, Nat.reduceLeDiff, Nat.reduceEqDiff, Bool.not_true, Bool.not_false, Bool.not_not, Bool.false_and, Bool.true_and, Bool.and_true, Bool.and_false, Bool.false_or, Bool.true_or, Bool.or_true, Bool.or_false, decide_true, decide_false, oNe_int, oEq_int, oEq_str, oNe_str, at20, at21, at30, at31, at32, len2, len3, isi_tup, isi_str, le_int, gt_int, lt_int, ge_int, oMax2, oMin2, gt_iff_lt, max_if, min_if, oAdd_int, oSub_int, oNeg_int, cDc, cTupRg, dec_refl, tvYes, List.isEmpty_nil, List.isEmpty_cons]
      unfold b__law_poll_3
      refine (seq_nx (set_nx g1)).trans ?_
      simp only [sApp, a8, o8, hw, en, eps, le, la, runF, List.length_cons, List.length_nil, if_true, if_false, List.map_cons, List.map_nil, List.cons_append, List.nil_append, List.replicate, sSeq, sIf, sRet, sNil, sSet, sSetN, sPar, sAsg, sFz, fz, sFor, sExpr, sRaise, sWh, rob, cOr, cAnd, cNot, cT, cTru, cB, cIf, c1, c2, cV, cVw, cK, cAndV, cOrV, cNotV, cChain, aCons, aNil, cCall, cB1, cTup, cLst, cLc, cSeqA, cRng1, cRng2, cEnum, enumO, cZip, zipO, cCut, pSome, pNo, oCut, gT, gsCons, gsNil, gN, Rs.bind, Option.bind, Option.map, ofO, cond, truD, fgt, List.foldl, List.set, lim, List.getElem?_cons_zero, List.getElem?_cons_succ, Nat.zero_add, Nat.reduceSub, Nat.reduceAdd, Nat.reduceLeDiff, Nat.reduceEqDiff, Bool.not_true, Bool.not_false, Bool.not_not, Bool.false_and, Bool.true_and, Bool.and_true, Bool.and_false, Bool.false_or, Bool.true_or, Bool.or_true, Bool.or_false, decide_true, decide_false, oNe_int, oEq_int, oEq_str, oNe_str, at20, at21, at30, at31, at32, len2, len3, isi_tup, isi_str, le_int, gt_int, lt_int, ge_int, oMax2, oMin2, gt_iff_lt, max_if, min_if, oAdd_int, oSub_int, oNeg_int, cDc, cTupRg, dec_refl, tvYes, List.isEmpty_nil, List.isEmpty_cons]
      rfl
  | true =>
    have hne : ps = [] := by simpa using hemp
    subst hne
    refine ⟨⟨u, w, [([0], shF (at0 c 0) N u w)]⟩, ⟨mk _ (by simp) (fun q hq => ?_) (by simp), by simp, fun q hq => ?_, us, fun _ _ _ => trivial⟩, fun h => um (em1 h), fun h q hq => ?_, .int u, .str w, .no, .no, .no, .va (.lst [ptD ([0], shF (at0 c 0) N u w)]), ?_⟩
    · rw [List.mem_singleton.mp hq]; exact ⟨ok_one (by decide) (by omega), e4.1, e4.2⟩
    · rw [List.mem_singleton.mp hq]
      refine List.mem_append_left _ (List.mem_append_right _ ?_)
      unfold singles
      exact List.mem_map.mpr ⟨0, mem_rng.mpr ⟨by omega, by omega⟩, rfl⟩
    · rw [List.mem_singleton.mp hq]; simp
    · rw [ap, sp]
      have pt : [([0], shF (at0 c 0) N u w)].map ptD = [.tup [.tup [.int 0], .int (shF (at0 c 0) N u w)]] := rfl
      have pt2 : ptD ([0], shF (at0 c 0) N u w) = .tup [.tup [.int 0], .int (shF (at0 c 0) N u w)] := rfl
      rw [pt, pt2]
      rw [hemp] at le
      unfold unitsD at hu
      unfold wordsD at hw
      simp only [List.map_nil] at eps le
      generalize shF (at0 c 0) N u w = told at *
      generalize at0 c 0 = cz at *
      generalize row.map Dt.int = rw' at *
      generalize c.map Dt.int = cd at *
      generalize ss.map shD = sd at *
      generalize fam.map lotD = fd at *
      have g1 : c2 Dl.oAt (cLst (aCons (cK (.int 2)) (aCons (cK (.int 3)) (aCons (cK (.int 4)) (aCons (cK (.int 5)) (aCons (cK (.int 7)) (aCons (cK (.int 10)) (aCons (cK (.int 20)) (aCons (cK (.int 100)) aNil))))))))) (c2 oMod (c2 Dl.oAt (cVw 3) (c2 oAdd (cK (.int 6)) (cV 9))) (cIf (cAnd (cT (c2 oEq (cVw 9) (cK (.int 0)))) (cT (c2 oEq (c2 oMod (c2 Dl.oAt (cVw 3) (cK (.int 5))) (cK (.int 2))) (cK (.int 0))))) (cK (.int 8)) (cK (.int 6)))) [.va d0, .va d1, .va d2, .va (.lst rw'), .va (.int n), .va (.str (kindS one)), .va (.int N), .va (.lst cd), .ow (.lst sd), .va (.int t), .no, .no, .no, .no, .no, .no, .no] = .ok (.int u) := by
        refine c2_ok rfl (c2_ok ?_ em2 om) hu
        simp only [a6, runF, List.length_cons, List.length_nil, if_true, if_false, List.map_cons, List.map_nil, List.cons_append, List.nil_append, List.replicate, sSeq, sIf, sRet, sNil, sSet, sSetN, sPar, sAsg, sFz, fz, sFor, sExpr, sRaise, sWh, rob, cOr, cAnd, cNot, cT, cTru, cB, cIf, c1, c2, cV, cVw, cK, cAndV, cOrV, cNotV, cChain, aCons, aNil, cCall, cB1, cTup, cLst, cLc, cSeqA, cRng1, cRng2, cEnum, enumO, cZip, zipO, cCut, pSome, pNo, oCut, gT, gsCons, gsNil, gN, Rs.bind, Option.bind, Option.map, ofO, cond, truD, fgt, List.foldl, List.set, lim, List.getElem?_cons_zero, List.getElem?_cons_succ, Nat.zero_add, Nat.reduceSub, Nat.reduceAdd, Nat.reduceLeDiff, Nat.reduceEqDiff, Bool.not_true, Bool.not_false, Bool.not_not, Bool.false_and, Bool.true_and, Bool.and_true, Bool.and_false, Bool.false_or, Bool.true_or, Bool.or_true, Bool.or_false, decide_true, decide_false, oNe_int, oEq_int, oEq_str, oNe_str, at20, at21, at30, at31, at32, len2, len3, isi_tup, isi_str, le_int, gt_int, lt_int, ge_int, oMax2, oMin2, gt_iff_lt, max_if, min_if, oAdd_int, oSub_int, oNeg_int, cDc, cTupRg, dec_refl, tvYes, List.isEmpty_nil, List.isEmpty_cons]
      unfold b__law_poll_3
      refine (seq_nx (set_nx g1)).trans ?_
      simp only [sApp, a8, o8, hw, en, eps, le, la, a0', e3, runF, List.length_cons, List.length_nil, if_true, if_false, List.map_cons, List.map_nil, List.cons_append, List.nil_append, List.replicate, sSeq, sIf, sRet, sNil, sSet, sSetN, sPar, sAsg, sFz, fz, sFor, sExpr, sRaise, sWh, rob, cOr, cAnd, cNot, cT, cTru, cB, cIf, c1, c2, cV, cVw, cK, cAndV, cOrV, cNotV, cChain, aCons, aNil, cCall, cB1, cTup, cLst, cLc, cSeqA, cRng1, cRng2, cEnum, enumO, cZip, zipO, cCut, pSome, pNo, oCut, gT, gsCons, gsNil, gN, Rs.bind, Option.bind, Option.map, ofO, cond, truD, fgt, List.foldl, List.set, lim, List.getElem?_cons_zero, List.getElem?_cons_succ, Nat.zero_add, Nat.reduceSub, Nat.reduceAdd, Nat.reduceLeDiff, Nat.reduceEqDiff, Bool.not_true, Bool.not_false, Bool.not_not, Bool.false_and, Bool.true_and, Bool.and_true, Bool.and_false, Bool.false_or, Bool.true_or, Bool.or_true, Bool.or_false, decide_true, decide_false, oNe_int, oEq_int, oEq_str, oNe_str, at20, at21, at30, at31, at32, len2, len3, isi_tup, isi_str, le_int, gt_int, lt_int, ge_int, oMax2, oMin2, gt_iff_lt, max_if, min_if, oAdd_int, oSub_int, oNeg_int, cDc, cTupRg, dec_refl, tvYes, List.isEmpty_nil, List.isEmpty_cons]
      rfl
end Sh
namespace Sh
open PySem L2 Dl
/-- a poll as the laws draw it -/
structure Drawn (p : Pl) (m : Int) : Prop where
  good : Good p
  nm : p.n ≤ m
  s2 : p.ss.length ≤ 2
  ps : ∀ s ∈ p.ss, s.ps.length ≤ 10
  us : ∀ s ∈ p.ss, s.u = 2 ∨ s.u = 3 ∨ s.u = 4 ∨ s.u = 5 ∨ s.u = 7 ∨ s.u = 10 ∨ s.u = 20 ∨ s.u = 100
  one : p.one = false → ∀ s ∈ p.ss, ∀ q ∈ s.ps, q.1.length ≤ 1
  fam : ∃ fam, Fam p.n fam ∧ ∀ s ∈ p.ss, ∀ q ∈ s.ps, q.1 ∈ famAll p.n fam
theorem ltLot_len {a b : Lot} (h : ltLot b a = false) : a.length ≤ b.length := by
  refine Nat.le_of_not_lt fun hl => ?_
  have : ltLot b a = true := by
    unfold ltLot kSK
    have ne : ¬ ((b.length : Int) = a.length) := by omega
    have lt : ((b.length : Int) < a.length) := by omega
    simp [ltS, ltA, eqS, ne, lt]
  rw [h] at this; cases this
theorem laminar_of (p : Pl) (fam : List Lot) (hf : Fam p.n fam) (hm : ∀ s ∈ p.ss, ∀ q ∈ s.ps, q.1 ∈ famAll p.n fam) : (lotsP p).Pairwise (fun a b => nestB a b = true) := by
  have inF : ∀ l ∈ lotsP p, l ∈ famAll p.n fam := fun l hl => by
    rcases (mem_lotsP p l).mp hl with ⟨_, rfl⟩ | ⟨i, hi, rfl⟩ | ⟨s, hs, q, hq, rfl⟩
    · exact List.mem_append_right _ (List.mem_singleton.mpr rfl)
    · exact List.mem_append_left _ (List.mem_append_right _ (List.mem_map.mpr ⟨i, hi, rfl⟩))
    · exact hm s hs q hq
  refine List.Pairwise.imp_of_mem (fun {a b} ha hb h => ?_) (srtd_lotsP p)
  exact hf.nest a (inF a ha) b (inF b hb) (ltLot_len h)
theorem lcm_le (a b : Nat) (ha : 0 < a) (hb : 0 < b) : Nat.lcm a b ≤ a * b := Nat.le_of_dvd (Nat.mul_pos ha hb) (Nat.lcm_dvd_mul a b)
theorem oneN_le {s : Dl.Sh} (h : 1 ≤ s.u) : 1 ≤ oneN s ∧ (oneN s : Int) ≤ 2 * s.u := by
  unfold oneN
  split <;> omega
theorem turn_le {ss : List Dl.Sh} (h0 : ∀ s ∈ ss, 2 ≤ s.u ∧ s.u ≤ 100) (h1 : ss.length ≤ 2) (h2 : ss.length = 2 → ∀ s ∈ ss, s.u ≤ 10) : turnN ss ≤ 1000 := by
  cases ss with
  | nil => decide
  | cons s ss =>
    have a := oneN_le (s := s) (by have := (h0 s List.mem_cons_self).1; omega)
    have b := (h0 s List.mem_cons_self).2
    cases ss with
    | nil =>
      unfold turnN
      simp only [List.foldl_cons, List.foldl_nil]
      have := lcm_le 1 (oneN s) (by omega) (by omega)
      omega
    | cons t ss =>
      cases ss with
      | nil =>
        have c := oneN_le (s := t) (by have := (h0 t (by simp)).1; omega)
        have d1 := h2 rfl s (by simp)
        have d2 := h2 rfl t (by simp)
        unfold turnN
        simp only [List.foldl_cons, List.foldl_nil]
        have e1 := lcm_le 1 (oneN s) (by omega) (by omega)
        have e2 := lcm_le (Nat.lcm 1 (oneN s)) (oneN t) (Nat.lcm_pos (by omega) (by omega)) (by omega)
        have e3 : Nat.lcm 1 (oneN s) * oneN t ≤ 20 * 20 := Nat.mul_le_mul (by omega) (by omega)
        omega
      | cons r ss => simp at h1
theorem good_of (p : Pl) (fam : List Lot) (hf : Fam p.n fam) (n1 : 1 ≤ p.n) (n5 : p.n ≤ 6) (s1 : 1 ≤ p.ss.length) (s2 : p.ss.length ≤ 3) (hs : ∀ s ∈ p.ss, shB p.n s = true ∧ s.ps.length ≤ 10 ∧ ∀ q ∈ s.ps, q.1 ∈ famAll p.n fam) (ht : turnN p.ss ≤ 1000)
    (ho : p.one = false → ∀ s ∈ p.ss, ∀ q ∈ s.ps, q.1.length ≤ 1) : Good p where
  n1 := n1
  n6 := n5
  s1 := s1
  s3 := s2
  sh := fun s h => by
    obtain ⟨h1, h2, h3⟩ := hs s h
    obtain ⟨k1, k2, k3, k4⟩ := shB_ok h1
    exact ⟨h1, by omega, fun q hq => by have := asc_len (k4 q hq).1 (by omega); omega, by omega, by omega⟩
  turn := ht
  nest := fun h => by
    have z : Sized p := ⟨n1, by omega, by omega, fun s h => by have := (hs s h).2.1; omega, fun s h => (shB_ok (hs s h).1).1.1, fun s h => (shB_ok (hs s h).1).1.2⟩
    refine ⟨laminar_of p fam hf fun s h q hq => (hs s h).2.2 q hq, fun l hl => ?_, ?_⟩
    · have : l ∈ lotsP p := hl
      rcases (mem_lotsP p l).mp this with ⟨_, rfl⟩ | ⟨i, hi, rfl⟩ | ⟨s, hs', q, hq, rfl⟩
      · rw [len_rng]; omega
      · simp
      · have := asc_len ((shB_ok (hs s hs').1).2.2.2 q hq).1 (by omega); omega
    · have e : (lotsP p).length = (keysP p).length := (perm_lotsP p).length_eq
      have : (lotsP p).length ≤ (lotsL p).length := (nodup_lotsP p).length_le_of_subset fun l hl => (mem_lotsL p l).mpr hl
      have l2 : (lotsL p).length ≤ 7 + 30 := by
        unfold lotsL
        have gen : ∀ (ss : List Dl.Sh) (ls : List Lot), (∀ s ∈ ss, s.ps.length ≤ 10) → (ss.foldl (fun ls s => ls ++ s.ps.map (·.1)) ls).length ≤ ls.length + 10 * ss.length := by
          intro ss
          induction ss with
          | nil => intro ls _; simp
          | cons s ss ih =>
            intro ls h
            rw [List.foldl_cons]
            have := ih (ls ++ s.ps.map (·.1)) fun t ht => h t (List.mem_cons_of_mem _ ht)
            have := h s List.mem_cons_self
            simp only [List.length_append, List.length_map, List.length_cons] at *
            omega
        have := gen p.ss ((rng p.n.toNat).map (fun i => [i]) ++ if p.one = true then [rng p.n.toNat] else []) fun s h => (hs s h).2.1
        have l0 : ((rng p.n.toNat).map (fun i => [i]) ++ if p.one = true then [rng p.n.toNat] else []).length ≤ 7 := by
          rw [List.length_append, List.length_map, len_rng]
          split <;> simp <;> omega
        omega
      have e2 : (sortLots (keysP p)).length = (lotsP p).length := rfl
      omega
  each := ho
end Sh
namespace Sh
open PySem L2 Dl
theorem run_rt {np nn : Nat} {g : Sv} {ds : List Dt} {d : Dt} {ρ : List Sl} (h1 : ds.length = np) (h2 : ds.map Sl.va ++ List.replicate (nn - ds.length) Sl.no = ρ) (h : g ρ = .rt d) : runF np nn g ds = .ok d := by
  unfold runF
  rw [if_pos h1, h2, h]
theorem run_ex {np nn : Nat} {g : Sv} {ds : List Dt} {x : Str} {ρ ρ' : List Sl} (h1 : ds.length = np) (h2 : ds.map Sl.va ++ List.replicate (nn - ds.length) Sl.no = ρ) (h : g ρ = .ex x ρ') : runF np nn g ds = .ex x := by
  unfold runF
  rw [if_pos h1, h2, h]
theorem lotsL_few (p : Pl) (n5 : p.n ≤ 6) (s2 : p.ss.length ≤ 3) (hs : ∀ s ∈ p.ss, s.ps.length ≤ 10) : (lotsL p).length < 64 := by
  unfold lotsL
  have gen : ∀ (ss : List Dl.Sh) (ls : List Lot), (∀ s ∈ ss, s.ps.length ≤ 10) → (ss.foldl (fun ls s => ls ++ s.ps.map (·.1)) ls).length ≤ ls.length + 10 * ss.length := by
    intro ss
    induction ss with
    | nil => intro ls _; simp
    | cons s ss ih =>
      intro ls h
      rw [List.foldl_cons]
      have := ih (ls ++ s.ps.map (·.1)) fun t ht => h t (List.mem_cons_of_mem _ ht)
      have := h s List.mem_cons_self
      simp only [List.length_append, List.length_map, List.length_cons] at *
      omega
  have := gen p.ss ((rng p.n.toNat).map (fun i => [i]) ++ if p.one = true then [rng p.n.toNat] else []) hs
  have l0 : ((rng p.n.toNat).map (fun i => [i]) ++ if p.one = true then [rng p.n.toNat] else []).length ≤ 7 := by
    rw [List.length_append, List.length_map, len_rng]
    split <;> simp <;> omega
  omega
theorem Drawn.few {p : Pl} {m : Int} (d : Drawn p m) : (lotsL p).length < 64 := lotsL_few p d.good.n6 (by have := d.s2; omega) d.ps
theorem E_drawn (ns : List Int) (a m : Int) (ha : 0 ≤ a) (hm : 1 ≤ m) (hm2 : m ≤ 5) : ∃ p, Drawn p m ∧ F__law_poll [.scr ns, .int a, .int m] = .ok (plD p) := by
  obtain ⟨row, hl, hb, e0⟩ := E_row ns a ha
  have n1 := mod_nn (at0 row 0) m (by omega)
  have n2 := mod_lt (at0 row 0) m (by omega)
  have a0 := row_at' hl 0 (by decide) (by decide)
  have a1 := row_at' hl 1 (by decide) (by decide)
  have a2 := row_at' hl 2 (by decide) (by decide)
  have a3 := row_at' hl 3 (by decide) (by decide)
  have a5 := row_at' hl 5 (by decide) (by decide)
  have o0 := oMod_ok (i := at0 row 0) (show 0 < m by omega)
  have o1 := oMod_ok (i := at0 row 1) (show (0 : Int) < 4 by decide)
  have o3 := oMod_ok (i := at0 row 3) (show (0 : Int) < 3 by decide)
  have o5 := oMod_ok (i := at0 row 5) (show (0 : Int) < 2 by decide)
  obtain ⟨k, hk, ek⟩ : ∃ k : Int, (1 ≤ k ∧ k ≤ 60) ∧ Dl.oAt (.lst [.int 8, .int 30, .int 60]) (.int (at0 row 3 % 3)) = some (.int k) := by
    have h1 := mod_nn (at0 row 3) 3 (by decide)
    have h2 := mod_lt (at0 row 3) 3 (by decide)
    have c : at0 row 3 % 3 = 0 ∨ at0 row 3 % 3 = 1 ∨ at0 row 3 % 3 = 2 := by omega
    rcases c with c | c | c <;> rw [c]
    · exact ⟨8, by omega, rfl⟩
    · exact ⟨30, by omega, rfl⟩
    · exact ⟨60, by omega, rfl⟩
  have o2 := oMod_ok (i := at0 row 2) (show 0 < k by omega)
  have N1 := mod_nn (at0 row 2) k (by omega)
  have N2 := mod_lt (at0 row 2) k (by omega)
  have s1 := mod_nn (at0 row 5) 2 (by omega)
  have s2 := mod_lt (at0 row 5) 2 (by omega)
  -- the kind
  have ek1 : cIf (cT (c2 oEq (c2 oMod (c2 Dl.oAt (cVw 3) (cK (.int 1))) (cK (.int 4))) (cK (.int 0)))) (cK (.str "some")) (cK (.str "one")) [.va (.scr ns), .va (.int a), .va (.int m), .va (.lst (row.map Dt.int)), .va (.int (1 + at0 row 0 % m)), .no, .no, .no, .no, .no, .no, .no, .no, .no, .no, .no, .no] = .ok (.str (kindS (!decide (at0 row 1 % 4 = 0)))) := by
    generalize row.map Dt.int = rw' at *
    generalize at0 row 1 % 4 = z at *
    cases h : decide (z = 0) <;> simp only [a1, o1, h, runF, List.length_cons, List.length_nil, if_true, if_false, List.map_cons, List.map_nil, List.cons_append, List.nil_append, List.replicate, sSeq, sIf, sRet, sNil, sSet, sSetN, sPar, sAsg, sFz, fz, sFor, sExpr, sRaise, sWh, rob, cOr, cAnd, cNot, cT, cTru, cB, cIf, c1, c2, cV, cVw, cK, cAndV, cOrV, cNotV, cChain, aCons, aNil, cCall, cB1, cTup, cLst, cLc, cSeqA, cRng1, cRng2, cEnum, enumO, cZip, zipO, cCut, pSome, pNo, oCut, gT, gsCons, gsNil, gN, Rs.bind, Option.bind, Option.map, ofO, cond, truD, fgt, List.foldl, List.set, lim, List.getElem?_cons_zero, List.getElem?_cons_succ, Nat.zero_add, Nat.reduceSub, Nat.reduceAdd, Nat.reduceLeDiff, Nat.reduceEqDiff, Bool.not_true, Bool.not_false, Bool.not_not, Bool.false_and, Bool.true_and, Bool.and_true, Bool.and_false, Bool.false_or, Bool.true_or, Bool.or_true, Bool.or_false, decide_true, decide_false, oNe_int, oEq_int, oEq_str, oNe_str, at20, at21, at30, at31, at32, len2, len3, isi_tup, isi_str, le_int, gt_int, lt_int, ge_int, oMax2, oMin2, gt_iff_lt, max_if, min_if, oAdd_int, oSub_int, oNeg_int, cDc, cTupRg, dec_refl, tvYes, List.isEmpty_nil, List.isEmpty_cons] <;> rfl
  generalize hone : (!decide (at0 row 1 % 4 = 0)) = one at *
  generalize hn : 1 + at0 row 0 % m = n at *
  generalize hN : 1 + at0 row 2 % k = N at *
  obtain ⟨c, hc, es⟩ := E_spread hl hb 4 N n one (by decide) (by omega) (by omega) (by omega) (by omega)
  -- the showings
  generalize hfam : drawnFam n (at0 row (10 % 60)) (decide (at0 row ((10 + 1) % 60) % 2 = 0)) one = fam at *
  have hf : Fam n fam := by rw [← hfam]; exact famB_ok (fam_drawn n _ _ one (by omega) (by omega))
  generalize hz : at0 row 5 % 2 = z at *
  obtain ⟨ss, ess, hss⟩ := goFor_inv (tg := gN 9) (fg := [9, 10, 11, 12, 13, 14, 15]) (body := b__law_poll_3) Dt.int
    (fun ss : List Dl.Sh => [.va (.scr ns), .va (.int a), .va (.int m), .va (.lst (row.map Dt.int)), .va (.int n), .va (.str (kindS one)), .va (.int N), .va (.lst (c.map Dt.int)), .ow (.lst (ss.map shD)), .no, .no, .no, .no, .no, .no, .no, .no])
    (fun k ss => ss.length = k ∧ ∀ s ∈ ss, ShOk n fam s ∧ (z ≠ 0 → s.u ≤ 10) ∧ (one = false → ∀ q ∈ s.ps, q.1.length ≤ 1)) (rng (1 + z).toNat) 0 [] ⟨rfl, fun s hs => by cases hs⟩ (fun i ss x hx ⟨hlen, hall⟩ => by
      have hx' := mem_rng.mp (List.mem_of_getElem? hx)
      have hi := (List.getElem?_eq_some_iff.mp hx).1
      rw [len_rng] at hi
      obtain ⟨s, h1, h2, h3, d10, d11, d13, d14, d15, s12, e⟩ := polls_step hl hb (.scr ns) (.int a) (.int m) n N x one c ss hc (by omega) (by omega) (by omega) (by omega) (by omega) (by omega) (by omega)
      rw [hfam] at h1
      rw [hz] at h2
      refine ⟨ss ++ [s], ⟨by simp; omega, fun t ht => ?_⟩, _, _, rfl, e, rfl⟩
      rcases List.mem_append.mp ht with ht | ht
      · exact hall t ht
      · rw [List.mem_singleton.mp ht]; exact ⟨h1, h2, h3⟩)
  obtain ⟨hlen, hall⟩ := hss
  rw [len_rng] at hlen
  refine ⟨⟨n, one, ss⟩, ?_, ?_⟩
  · have hs : ∀ s ∈ ss, shB n s = true ∧ s.ps.length ≤ 10 ∧ ∀ q ∈ s.ps, q.1 ∈ famAll n fam := fun s h => ⟨(hall s h).1.b, (hall s h).1.ps, (hall s h).1.mem⟩
    have g : Good ⟨n, one, ss⟩ := good_of ⟨n, one, ss⟩ fam hf (by dsimp only; omega) (by dsimp only; omega) (by dsimp only; omega) (by dsimp only; omega) hs
      (turn_le (fun s h => (shB_ok (hs s h).1).1) (by dsimp only; omega) fun h2 s h => (hall s h).2.1 (by dsimp only at h2; omega)) fun h s hs' q hq => (hall s hs').2.2 h q hq
    exact ⟨g, by dsimp only; omega, by dsimp only; omega, fun s h => (hall s h).1.ps, fun s h => (hall s h).1.us, g.each, fam, hf, fun s h => (hs s h).2.2⟩
  · have r1 : inR (1 + z) = true := inR_of (by omega) (by omega)
    have rz : rngD 0 (1 + z).toNat = (rng (1 + z).toNat).map Dt.int := rngD_map _
    rw [← rz, List.map_nil] at ess
    unfold plD
    dsimp only
    generalize row.map Dt.int = rw' at *
    generalize c.map Dt.int = cd at *
    generalize ss.map shD = sd at *
    have g1 : sSet 4 (c2 oAdd (cK (.int 1)) (c2 oMod (c2 Dl.oAt (cVw 3) (cK (.int 0))) (cV 2))) [.va (.scr ns), .va (.int a), .va (.int m), .va (.lst rw'), .no, .no, .no, .no, .no, .no, .no, .no, .no, .no, .no, .no, .no] = .nx [.va (.scr ns), .va (.int a), .va (.int m), .va (.lst rw'), .va (.int n), .no, .no, .no, .no, .no, .no, .no, .no, .no, .no, .no, .no] := by
      simp only [a0, o0, hn, runF, List.length_cons, List.length_nil, if_true, if_false, List.map_cons, List.map_nil, List.cons_append, List.nil_append, List.replicate, sSeq, sIf, sRet, sNil, sSet, sSetN, sPar, sAsg, sFz, fz, sFor, sExpr, sRaise, sWh, rob, cOr, cAnd, cNot, cT, cTru, cB, cIf, c1, c2, cV, cVw, cK, cAndV, cOrV, cNotV, cChain, aCons, aNil, cCall, cB1, cTup, cLst, cLc, cSeqA, cRng1, cRng2, cEnum, enumO, cZip, zipO, cCut, pSome, pNo, oCut, gT, gsCons, gsNil, gN, Rs.bind, Option.bind, Option.map, ofO, cond, truD, fgt, List.foldl, List.set, lim, List.getElem?_cons_zero, List.getElem?_cons_succ, Nat.zero_add, Nat.reduceSub, Nat.reduceAdd, Nat.reduceLeDiff, Nat.reduceEqDiff, Bool.not_true, Bool.not_false, Bool.not_not, Bool.false_and, Bool.true_and, Bool.and_true, Bool.and_false, Bool.false_or, Bool.true_or, Bool.or_true, Bool.or_false, decide_true, decide_false, oNe_int, oEq_int, oEq_str, oNe_str, at20, at21, at30, at31, at32, len2, len3, isi_tup, isi_str, le_int, gt_int, lt_int, ge_int, oMax2, oMin2, gt_iff_lt, max_if, min_if, oAdd_int, oSub_int, oNeg_int, cDc, cTupRg, dec_refl, tvYes, List.isEmpty_nil, List.isEmpty_cons]
    have g2 : sSet 6 (c2 oAdd (cK (.int 1)) (c2 oMod (c2 Dl.oAt (cVw 3) (cK (.int 2))) (c2 Dl.oAt (cLst (aCons (cK (.int 8)) (aCons (cK (.int 30)) (aCons (cK (.int 60)) aNil)))) (c2 oMod (c2 Dl.oAt (cVw 3) (cK (.int 3))) (cK (.int 3)))))) [.va (.scr ns), .va (.int a), .va (.int m), .va (.lst rw'), .va (.int n), .va (.str (kindS one)), .no, .no, .no, .no, .no, .no, .no, .no, .no, .no, .no] = .nx [.va (.scr ns), .va (.int a), .va (.int m), .va (.lst rw'), .va (.int n), .va (.str (kindS one)), .va (.int N), .no, .no, .no, .no, .no, .no, .no, .no, .no, .no] := by
      simp only [a2, a3, o2, o3, ek, hN, runF, List.length_cons, List.length_nil, if_true, if_false, List.map_cons, List.map_nil, List.cons_append, List.nil_append, List.replicate, sSeq, sIf, sRet, sNil, sSet, sSetN, sPar, sAsg, sFz, fz, sFor, sExpr, sRaise, sWh, rob, cOr, cAnd, cNot, cT, cTru, cB, cIf, c1, c2, cV, cVw, cK, cAndV, cOrV, cNotV, cChain, aCons, aNil, cCall, cB1, cTup, cLst, cLc, cSeqA, cRng1, cRng2, cEnum, enumO, cZip, zipO, cCut, pSome, pNo, oCut, gT, gsCons, gsNil, gN, Rs.bind, Option.bind, Option.map, ofO, cond, truD, fgt, List.foldl, List.set, lim, List.getElem?_cons_zero, List.getElem?_cons_succ, Nat.zero_add, Nat.reduceSub, Nat.reduceAdd, Nat.reduceLeDiff, Nat.reduceEqDiff, Bool.not_true, Bool.not_false, Bool.not_not, Bool.false_and, Bool.true_and, Bool.and_true, Bool.and_false, Bool.false_or, Bool.true_or, Bool.or_true, Bool.or_false, decide_true, decide_false, oNe_int, oEq_int, oEq_str, oNe_str, at20, at21, at30, at31, at32, len2, len3, isi_tup, isi_str, le_int, gt_int, lt_int, ge_int, oMax2, oMin2, gt_iff_lt, max_if, min_if, oAdd_int, oSub_int, oNeg_int, cDc, cTupRg, dec_refl, tvYes, List.isEmpty_nil, List.isEmpty_cons]
    refine run_rt (ρ := [.va (.scr ns), .va (.int a), .va (.int m), .no, .no, .no, .no, .no, .no, .no, .no, .no, .no, .no, .no, .no, .no]) rfl rfl ?_
    unfold g__law_poll
    refine (seq_nx (ρ' := [.va (.scr ns), .va (.int a), .va (.int m), .va (.lst rw'), .no, .no, .no, .no, .no, .no, .no, .no, .no, .no, .no, .no, .no]) (by simp only [e0, runF, List.length_cons, List.length_nil, if_true, if_false, List.map_cons, List.map_nil, List.cons_append, List.nil_append, List.replicate, sSeq, sIf, sRet, sNil, sSet, sSetN, sPar, sAsg, sFz, fz, sFor, sExpr, sRaise, sWh, rob, cOr, cAnd, cNot, cT, cTru, cB, cIf, c1, c2, cV, cVw, cK, cAndV, cOrV, cNotV, cChain, aCons, aNil, cCall, cB1, cTup, cLst, cLc, cSeqA, cRng1, cRng2, cEnum, enumO, cZip, zipO, cCut, pSome, pNo, oCut, gT, gsCons, gsNil, gN, Rs.bind, Option.bind, Option.map, ofO, cond, truD, fgt, List.foldl, List.set, lim, List.getElem?_cons_zero, List.getElem?_cons_succ, Nat.zero_add, Nat.reduceSub, Nat.reduceAdd, Nat.reduceLeDiff, Nat.reduceEqDiff, Bool.not_true, Bool.not_false, Bool.not_not, Bool.false_and, Bool.true_and, Bool.and_true, Bool.and_false, Bool.false_or, Bool.true_or, Bool.or_true, Bool.or_false, decide_true, decide_false, oNe_int, oEq_int, oEq_str, oNe_str, at20, at21, at30, at31, at32, len2, len3, isi_tup, isi_str, le_int, gt_int, lt_int, ge_int, oMax2, oMin2, gt_iff_lt, max_if, min_if, oAdd_int, oSub_int, oNeg_int, cDc, cTupRg, dec_refl, tvYes, List.isEmpty_nil, List.isEmpty_cons])).trans ?_
    refine (seq_nx g1).trans ?_
    refine (seq_nx (set_nx ek1)).trans ?_
    refine (seq_nx g2).trans ?_
    simp only [es, ess, a5, o5, r1, oTup, runF, List.length_cons, List.length_nil, if_true, if_false, List.map_cons, List.map_nil, List.cons_append, List.nil_append, List.replicate, sSeq, sIf, sRet, sNil, sSet, sSetN, sPar, sAsg, sFz, fz, sFor, sExpr, sRaise, sWh, rob, cOr, cAnd, cNot, cT, cTru, cB, cIf, c1, c2, cV, cVw, cK, cAndV, cOrV, cNotV, cChain, aCons, aNil, cCall, cB1, cTup, cLst, cLc, cSeqA, cRng1, cRng2, cEnum, enumO, cZip, zipO, cCut, pSome, pNo, oCut, gT, gsCons, gsNil, gN, Rs.bind, Option.bind, Option.map, ofO, cond, truD, fgt, List.foldl, List.set, lim, List.getElem?_cons_zero, List.getElem?_cons_succ, Nat.zero_add, Nat.reduceSub, Nat.reduceAdd, Nat.reduceLeDiff, Nat.reduceEqDiff, Bool.not_true, Bool.not_false, Bool.not_not, Bool.false_and, Bool.true_and, Bool.and_true, Bool.and_false, Bool.false_or, Bool.true_or, Bool.or_true, Bool.or_false, decide_true, decide_false, oNe_int, oEq_int, oEq_str, oNe_str, at20, at21, at30, at31, at32, len2, len3, isi_tup, isi_str, le_int, gt_int, lt_int, ge_int, oMax2, oMin2, gt_iff_lt, max_if, min_if, oAdd_int, oSub_int, oNeg_int, cDc, cTupRg, dec_refl, tvYes, List.isEmpty_nil, List.isEmpty_cons]
end Sh
namespace K03
open PySem L2 Dl Sh
abbrev tabN : List Str := ["BadLot", "BadNumber", "BadPoll"]
abbrev tabC : List Str := ["BadNumber", "ShareError", "BadPoll", "BadLot"]
def g__law_ends_word : Sv := (sSeq (sTryR tabN tabC (sExpr (cCall F_ends (aCons (cV 0) (aCons (cV 1) (aCons (cV 2) aNil))))) [("BadLot", fun n => cond (subX n "ShareError" && !subX n "BadPoll") "lot" "other"), ("BadNumber", fun n => cond (subX n "ShareError" && !subX n "BadPoll") "number" "other")])
  (sRet (cK (.str "none"))))
def F__law_ends_word : List Dt → Rs Dt := runF 3 4 g__law_ends_word
def b_law_1 : Sv := (sIf (cAnd (cT (c2 oEq (cVw 13) (cVw 4))) (cT (c2 oNe (cCall F__law_share (aCons (cV 8) (aCons (cV 3) (aCons (cV 10) (aCons (cV 11) aNil))))) (cVw 14)))) (sSet 9 (cK (.bl false))) sNil)
def b_law_2 : Sv := (sFor (cSeqA (cV 12)) (gT (gsCons (gN 13) (gsCons (gN 14) gsNil))) [13, 14] b_law_1)
def b_law_3 : Sv := (sSeq (sSet 8 (c2 oAt (cLst (aCons (c2 oMod (c2 oAt (cVw 1) (c2 oAdd (cK (.int 5)) (cV 7))) (c2 oAdd (cV 3) (cK (.int 1)))) (aCons (cV 5) (aCons (cV 6) (aCons (c2 oSub (cV 5) (cK (.int 1))) aNil))))) (cV 7)))
  (sIf (cT (cChain oLe oLe (cK (.int 0)) (cV 8) (cV 3))) (sSeq (sSet 9 (cOrV (c2 oEq (c2 oAt (cVw 2) (cK (.int 1))) (cK (.str "some"))) (cOrV (c2 oLt (cB1 oLen (aCons (cVw 4) aNil)) (c2 oAt (cVw 2) (cK (.int 0)))) (c2 oEq (cVw 8) (cVw 3)))))
  (sSeq (sFor (cSeqA (c2 oAt (cVw 2) (cK (.int 2)))) (gT (gsCons (gN 10) (gsCons (gN 11) (gsCons (gN 12) gsNil)))) [10, 11, 12, 13, 14] b_law_2)
  (sIf (cT (c2 oNe (cChain oLe oLe (cV 5) (cV 8) (cV 6)) (cVw 9))) (sRet (cK (.bl false))) sNil))) sNil))
def b_law_4 : Sv := (sSeq (sAsg (cCall F_ends (aCons (cV 2) (aCons (cV 3) (aCons (cV 4) aNil)))) (gT (gsCons (gN 5) (gsCons (gN 6) gsNil))))
  (sSeq (sIf (cT (c2 oNe (cTup (aCons (cV 5) (aCons (cV 6) aNil))) (cCall F__law_ends (aCons (cV 2) (aCons (cV 3) (aCons (cV 4) aNil)))))) (sRet (cK (.bl false))) sNil)
  (sFor (cRng1 (aCons (cK (.int 4)) aNil)) (gN 7) [7, 8, 9, 10, 11, 12, 13, 14] b_law_3)))
def g_law : Sv := (sSeq (sSet 1 (cCall F__law_row (aCons (cV 0) (aCons (cK (.int 4)) aNil))))
  (sSeq (sSet 2 (cCall F__law_poll (aCons (cV 0) (aCons (cK (.int 2)) (aCons (cK (.int 5)) aNil)))))
  (sSeq (sSet 3 (cCall F__law_asked (aCons (cV 1) (aCons (cK (.int 0)) (aCons (cK (.int 400)) aNil)))))
  (sSeq (sFor (cSeqA (cCall F__law_lots (aCons (cV 2) aNil))) (gN 4) [4, 5, 6, 7, 8, 9, 10, 11, 12, 13, 14] b_law_4)
  (sSeq (sSet 15 (c2 oAt (cLst (aCons (cK .non) (aCons (cTup aNil) (aCons (cTup (aCons (c2 oAt (cVw 2) (cK (.int 0))) aNil)) (aCons (cLst (aCons (cK (.int 0)) aNil)) (aCons (cTup (aCons (cK (.bl true)) aNil)) (aCons (cTup (aCons (cK (.int 0)) (aCons (cK (.int 0)) aNil))) aNil))))))) (c2 oMod (c2 oAt (cVw 1) (cK (.int 10))) (cK (.int 6)))))
  (sSeq (sIf (cT (c2 oNe (cCall F__law_ends_word (aCons (cV 2) (aCons (cV 3) (aCons (cV 15) aNil)))) (cK (.str "lot")))) (sRet (cK (.bl false))) sNil)
  (sRet (c2 oEq (cCall F__law_ends_word (aCons (cV 2) (aCons (c2 oAt (cLst (aCons (cK .non) (aCons (cK (.int 0)) (aCons (cK (.int 100001)) (aCons (cK (.bl true)) aNil))))) (c2 oMod (c2 oAt (cVw 1) (cK (.int 11))) (cK (.int 4)))) (aCons (cTup (aCons (cK (.int 0)) aNil)) aNil)))) (cK (.str "number"))))))))))
def F_law : List Dt → Rs Dt := runF 1 16 g_law
end K03
namespace K03
open PySem L2 Dl Sh
/-! the text by places -/
def top (i : Nat) : Stmt := PySem.Challenge.pw_shownshares_k03_ends_of_lots.main.body.getD i (.Pass ⟨0, 0, 0, 0⟩)
abbrev s_is_within : Stmt := top 12
abbrev N_is_within : List Str := ["thing", "low", "high"]
abbrev p_is_within : List Str := ["thing", "low", "high"]
abbrev s_rises : Stmt := top 13
abbrev N_rises : List Str := ["thing", "one", "other"]
abbrev p_rises : List Str := ["thing"]
abbrev s_is_lot : Stmt := top 14
abbrev N_is_lot : List Str := ["things", "thing", "one"]
abbrev p_is_lot : List Str := ["things", "thing"]
abbrev s_is_part : Stmt := top 15
abbrev N_is_part : List Str := ["things", "units", "thing"]
abbrev p_is_part : List Str := ["things", "units", "thing"]
abbrev s_is_showing_of : Stmt := top 16
abbrev N_is_showing_of : List Str := ["things", "thing", "one", "part"]
abbrev p_is_showing_of : List Str := ["things", "thing"]
abbrev s_common : Stmt := top 18
abbrev N_common : List Str := ["one", "other"]
abbrev p_common : List Str := ["one", "other"]
abbrev s_turn_of : Stmt := top 17
abbrev N_turn_of : List Str := ["showings", "found", "units", "word", "parts", "one"]
abbrev p_turn_of : List Str := ["showings"]
abbrev s_all_lots : Stmt := top 19
abbrev N_all_lots : List Str := ["poll", "found", "thing", "units", "word", "parts", "lot", "share"]
abbrev p_all_lots : List Str := ["poll"]
abbrev s_do_nest : Stmt := top 20
abbrev N_do_nest : List Str := ["lots", "at", "lot", "other", "both", "one"]
abbrev p_do_nest : List Str := ["lots"]
abbrev s_is_poll : Stmt := top 21
abbrev N_is_poll : List Str := ["thing", "one", "showing", "lot", "share"]
abbrev p_is_poll : List Str := ["thing"]
abbrev s_look : Stmt := top 22
abbrev N_look : List Str := ["poll"]
abbrev p_look : List Str := ["poll"]
abbrev s_look_number : Stmt := top 25
abbrev N_look_number : List Str := ["number"]
abbrev p_look_number : List Str := ["number"]
abbrev s_up_over : Stmt := top 26
abbrev N_up_over : List Str := ["top", "bottom"]
abbrev p_up_over : List Str := ["top", "bottom"]
abbrev s_stretch : Stmt := top 27
abbrev N_stretch : List Str := ["number", "units", "word", "part", "low", "high"]
abbrev p_stretch : List Str := ["number", "units", "word", "part"]
abbrev s_ends_of : Stmt := top 28
abbrev N_ends_of : List Str := ["poll", "number", "found", "units", "word", "parts", "lot", "part", "low", "high"]
abbrev p_ends_of : List Str := ["poll", "number"]
abbrev s_ends : Stmt := top 29
abbrev N_ends : List Str := ["poll", "number", "lot"]
abbrev p_ends : List Str := ["poll", "number", "lot"]
abbrev s__law_cell : Stmt := top 31
abbrev N__law_cell : List Str := ["_law_script", "_law_k"]
abbrev p__law_cell : List Str := ["_law_script", "_law_k"]
abbrev s__law_row : Stmt := top 32
abbrev N__law_row : List Str := ["_law_script", "_law_at", "_law_cell_here", "_law_found", "_law_time"]
abbrev p__law_row : List Str := ["_law_script", "_law_at"]
abbrev s__law_share : Stmt := top 33
abbrev N__law_share : List Str := ["_law_count", "_law_asked_here", "_law_units", "_law_word"]
abbrev p__law_share : List Str := ["_law_count", "_law_asked_here", "_law_units", "_law_word"]
abbrev s__law_spread : Stmt := top 34
abbrev N__law_spread : List Str := ["_law_row_here", "_law_at", "_law_asked_here", "_law_things", "_law_kind", "_law_found", "_law_time", "_law_thing"]
abbrev p__law_spread : List Str := ["_law_row_here", "_law_at", "_law_asked_here", "_law_things", "_law_kind"]
abbrev s__law_nest : Stmt := top 35
abbrev N__law_nest : List Str := ["_law_row_here", "_law_at", "_law_things", "_law_kind", "_law_order", "_law_found", "_law_half", "_law_thing", "_law_many", "_law_lot"]
abbrev p__law_nest : List Str := ["_law_row_here", "_law_at", "_law_things", "_law_kind"]
abbrev s__law_poll : Stmt := top 36
abbrev N__law_poll : List Str := ["_law_script", "_law_at", "_law_most", "_law_row_here", "_law_things", "_law_kind", "_law_asked_here", "_law_some", "_law_showings", "_law_time", "_law_units", "_law_word", "_law_parts", "_law_spot", "_law_lot", "_law_told", "_law_thing"]
abbrev p__law_poll : List Str := ["_law_script", "_law_at", "_law_most"]
abbrev s__law_asked : Stmt := top 37
abbrev N__law_asked : List Str := ["_law_row_here", "_law_at", "_law_most"]
abbrev p__law_asked : List Str := ["_law_row_here", "_law_at", "_law_most"]
abbrev s__law_lots : Stmt := top 38
abbrev N__law_lots : List Str := ["_law_poll_here", "_law_found", "_law_units", "_law_word", "_law_parts", "_law_thing", "_law_size", "_law_lot", "_law_told"]
abbrev p__law_lots : List Str := ["_law_poll_here"]
abbrev s__law_ends : Stmt := top 39
abbrev N__law_ends : List Str := ["_law_poll_here", "_law_asked_here", "_law_lot", "_law_low", "_law_high", "_law_units", "_law_word", "_law_parts", "_law_other", "_law_told", "_law_least_one", "_law_most_one"]
abbrev p__law_ends : List Str := ["_law_poll_here", "_law_asked_here", "_law_lot"]
abbrev s__law_ends_word : Stmt := top 40
abbrev N__law_ends_word : List Str := ["_law_poll_here", "_law_asked_here", "_law_lot", "e"]
abbrev p__law_ends_word : List Str := ["_law_poll_here", "_law_asked_here", "_law_lot"]
abbrev s_law : Stmt := top 41
abbrev N_law : List Str := ["_law_script", "_law_row_here", "_law_poll_here", "_law_asked_here", "_law_lot", "_law_low", "_law_high", "_law_time", "_law_count", "_law_good", "_law_units", "_law_word", "_law_parts", "_law_other", "_law_told", "_law_odd"]
abbrev p_law : List Str := ["_law_script"]
structure Txt0 (K : PySem.W.Frag) (mg : Str → Option Value) : Prop where
  b_bool : mg "bool" = none
  b_enumerate : mg "enumerate" = none
  b_int : mg "int" = none
  b_isinstance : mg "isinstance" = none
  b_len : mg "len" = none
  b_max : mg "max" = none
  b_min : mg "min" = none
  b_range : mg "range" = none
  b_set : mg "set" = none
  b_sorted : mg "sorted" = none
  b_str : mg "str" = none
  b_sum : mg "sum" = none
  b_tuple : mg "tuple" = none
  b_zip : mg "zip" = none
  c_KINDS : ∃ a, mg "KINDS" = some (.ref a) ∧ ∀ E, SqT K E a [V.str "one", V.str "some"]
  c_MOST_ASKED : ∃ t, mg "MOST_ASKED" = some (.int 100000 t)
  c_MOST_SHOWINGS : ∃ t, mg "MOST_SHOWINGS" = some (.int 3 t)
  c_MOST_THINGS : ∃ t, mg "MOST_THINGS" = some (.int 6 t)
  c_MOST_TURN : ∃ t, mg "MOST_TURN" = some (.int 1000 t)
  c_MOST_UNITS : ∃ t, mg "MOST_UNITS" = some (.int 100 t)
  c_WORDS : ∃ a, mg "WORDS" = some (.ref a) ∧ ∀ E, SqT K E a [V.str "cut", V.str "near", V.str "up"]
  d_is_within : Dfn K mg "is_within" s_is_within p_is_within
  d_rises : Dfn K mg "rises" s_rises p_rises
  d_is_lot : Dfn K mg "is_lot" s_is_lot p_is_lot
  d_is_part : Dfn K mg "is_part" s_is_part p_is_part
  d_is_showing_of : Dfn K mg "is_showing_of" s_is_showing_of p_is_showing_of
  d_common : Dfn K mg "common" s_common p_common
  d_turn_of : Dfn K mg "turn_of" s_turn_of p_turn_of
  d_all_lots : Dfn K mg "all_lots" s_all_lots p_all_lots
  d_do_nest : Dfn K mg "do_nest" s_do_nest p_do_nest
  d_is_poll : Dfn K mg "is_poll" s_is_poll p_is_poll
  d_look : Dfn K mg "look" s_look p_look
  d_look_number : Dfn K mg "look_number" s_look_number p_look_number
  d_up_over : Dfn K mg "up_over" s_up_over p_up_over
  d_stretch : Dfn K mg "stretch" s_stretch p_stretch
  d_ends_of : Dfn K mg "ends_of" s_ends_of p_ends_of
  d_ends : Dfn K mg "ends" s_ends p_ends
  d__law_cell : Dfn K mg "_law_cell" s__law_cell p__law_cell
  d__law_row : Dfn K mg "_law_row" s__law_row p__law_row
  d__law_share : Dfn K mg "_law_share" s__law_share p__law_share
  d__law_spread : Dfn K mg "_law_spread" s__law_spread p__law_spread
  d__law_nest : Dfn K mg "_law_nest" s__law_nest p__law_nest
  d__law_poll : Dfn K mg "_law_poll" s__law_poll p__law_poll
  d__law_asked : Dfn K mg "_law_asked" s__law_asked p__law_asked
  d__law_lots : Dfn K mg "_law_lots" s__law_lots p__law_lots
  d__law_ends : Dfn K mg "_law_ends" s__law_ends p__law_ends
  d__law_ends_word : Dfn K mg "_law_ends_word" s__law_ends_word p__law_ends_word
  d_law : Dfn K mg "law" s_law p_law
structure Txt (K : PySem.W.Frag) (mg : Str → Option Value) (base : Heap) (cl : Str → Addr) : Prop extends Txt0 K mg where
  l_all_lots : DfnL K mg base cl "all_lots" s_all_lots p_all_lots
  x_BadLot : XCls K mg "BadLot" (cl "BadLot")
  x_BadNumber : XCls K mg "BadNumber" (cl "BadNumber")
  x_BadPoll : XCls K mg "BadPoll" (cl "BadPoll")
  g_BadLot : mg "BadLot" = some (.ref (cl "BadLot"))
  g_BadNumber : mg "BadNumber" = some (.ref (cl "BadNumber"))
  g_BadPoll : mg "BadPoll" = some (.ref (cl "BadPoll"))
  g_ShareError : mg "ShareError" = some (.ref (cl "ShareError"))
  xt : XTab K cl tabN tabC
section
variable {P : Program} {w : World} {K : PySem.W.Frag} {mg : Str → Option Value} {base : Heap} {cl : Str → Addr}
theorem sc_is_within : FnScope N_is_within p_is_within (defScope s_is_within) := ⟨rfl, rfl, rfl, by decide +kernel, rfl, by decide +kernel, by decide +kernel⟩
theorem ok_is_within (T : Txt K mg base cl) : Fn P w K mg base cl "is_within" 1 p_is_within F_is_within := by
  exact Dfn.mk T.d_is_within sc_is_within fun hr tk hp hu hu65 nd =>
    (ss_one (s_ret (d_and (d_isi (T := "int") rfl T.b_isinstance rfl T.b_int (by decide +kernel) (w_var (pv 0))) (d_and (d_not (d_isi (T := "bool") rfl T.b_isinstance rfl T.b_bool (by decide +kernel) (w_var (pv 0)))) (d_one (d_chain op_le op_le (d_var (pv 1)) (d_var (pv 0)) (d_var (pv 2))))))))
theorem sc_rises : FnScope N_rises p_rises (defScope s_rises) := ⟨rfl, rfl, rfl, by decide +kernel, rfl, by decide +kernel, by decide +kernel⟩
theorem ok_rises (T : Txt K mg base cl) : Fn P w K mg base cl "rises" 1 p_rises F_rises := by
  exact Dfn.mk T.d_rises sc_rises fun hr tk hp hu hu65 nd =>
    (ss_one (s_ret (d_notT (n_w (n_lc (own := [("one", 1), ("other", 2)]) (by decide) rfl nd (i_zip rfl T.b_zip (a_cons moD (d_var (pv 0)) (a_cons moD (d_cut (d_var (pv 0)) (o_some d_int) o_no) a_nil))) (blkOk_by (own := [("one", 1), ("other", 2)]) (N := N_rises) (sc := defScope s_rises) (by decide +kernel)) (fun _ _ _ _ _ => (g_tup rfl (gs_cons (g_name (i := 1) nd rfl (by first | exact Or.inl rfl | exact Or.inr rfl)) (gs_cons (g_name (i := 2) nd rfl (by first | exact Or.inl rfl | exact Or.inr rfl)) gs_nil)) (gs_lenS (gs_lenS gs_len0)))) (fun _ _ _ _ _ => (ts_one (t_ge hu (d_var (pv 1)) (d_var (pv 2))))) (fun _ _ _ _ _ => d_int))))))
theorem sc_is_lot : FnScope N_is_lot p_is_lot (defScope s_is_lot) := ⟨rfl, rfl, rfl, by decide +kernel, rfl, by decide +kernel, by decide +kernel⟩
theorem ok_is_lot (T : Txt K mg base cl) : Fn P w K mg base cl "is_lot" 2 p_is_lot F_is_lot := by
  exact Dfn.mk T.d_is_lot sc_is_lot fun hr tk hp hu hu65 nd =>
    (ss_cons (s_if (PW.pt (t_or (t_not (t_val (d_isi (T := "tuple") rfl T.b_isinstance rfl T.b_tuple (by decide +kernel) (w_var (pv 1))))) (t_or (t_not (t_tru (w_var (pv 1)))) (t_or1 (t_tru (n_w (n_lc (own := [("one", 2)]) (by decide) rfl nd (i_seq (d_var (pv 1))) (blkOk_by (own := [("one", 2)]) (N := N_is_lot) (sc := defScope s_is_lot) (by decide +kernel)) (fun _ _ _ _ _ => (g_name (i := 2) nd rfl (by first | exact Or.inl rfl | exact Or.inr rfl))) (fun _ _ _ _ _ => (ts_one (t_not (t_tru (d_w (d_call (ok_is_within T) (hr.mono (by decide)) takes0 rfl (a_cons moD (d_var (pv 2)) (a_cons moD d_int (a_cons moD (d_sub (d_var (pv 0)) d_int) a_nil))))))))) (fun _ _ _ _ _ => (d_var (pv 2)))))))))) (ss_one (s_ret d_bl)) ss_nil)
  (ss_one (s_ret (d_call (ok_rises T) (hr.mono (by decide)) tk rfl (a_cons moD (d_var (pv 1)) a_nil)))))
theorem sc_is_part : FnScope N_is_part p_is_part (defScope s_is_part) := ⟨rfl, rfl, rfl, by decide +kernel, rfl, by decide +kernel, by decide +kernel⟩
theorem ok_is_part (T : Txt K mg base cl) : Fn P w K mg base cl "is_part" 3 p_is_part F_is_part := by
  exact Dfn.mk T.d_is_part sc_is_part fun hr tk hp hu hu65 nd =>
    (ss_one (s_ret (d_and (d_isi (T := "tuple") rfl T.b_isinstance rfl T.b_tuple (by decide +kernel) (w_var (pv 2))) (d_and (d_eq hu (d_w (d_len rfl T.b_len (a_cons moW (w_var (pv 2)) a_nil))) (d_w d_int)) (d_and (d_call (ok_is_lot T) (hr.mono (by decide)) tk rfl (a_cons moD (d_var (pv 0)) (a_cons moD (d_at hu (w_var (pv 2)) d_int fun _ _ => rfl) a_nil))) (d_one (d_call (ok_is_within T) (hr.mono (by decide)) tk rfl (a_cons moD (d_at hu (w_var (pv 2)) d_int fun _ _ => rfl) (a_cons moD d_int (a_cons moD (d_var (pv 1)) a_nil))))))))))
theorem sc_is_showing_of : FnScope N_is_showing_of p_is_showing_of (defScope s_is_showing_of) := ⟨rfl, rfl, rfl, by decide +kernel, rfl, by decide +kernel, by decide +kernel⟩
theorem ok_is_showing_of (T : Txt K mg base cl) : Fn P w K mg base cl "is_showing_of" 4 p_is_showing_of F_is_showing_of := by
  obtain ⟨t_MOST_UNITS, h_MOST_UNITS⟩ := T.c_MOST_UNITS
  obtain ⟨a_WORDS, h_WORDS, s_WORDS⟩ := T.c_WORDS
  exact Dfn.mk T.d_is_showing_of sc_is_showing_of fun hr tk hp hu hu65 nd =>
    (ss_cons (s_if (PW.pt (t_or (t_not (t_val (d_isi (T := "tuple") rfl T.b_isinstance rfl T.b_tuple (by decide +kernel) (w_var (pv 1))))) (t_or (t_ne hu (d_w (d_len rfl T.b_len (a_cons moW (w_var (pv 1)) a_nil))) (d_w d_int)) (t_or1 (t_not (t_tru (d_w (d_call (ok_is_within T) (hr.mono (by decide)) tk rfl (a_cons moD (d_at hu (w_var (pv 1)) d_int fun _ _ => rfl) (a_cons moD d_int (a_cons moD (d_const (v := .int 100) (pe_glob rfl h_MOST_UNITS ⟨_, rfl⟩) fun _ => .int _) a_nil))))))))))) (ss_one (s_ret d_bl)) ss_nil)
  (ss_cons (s_if (PW.pt (t_or (t_not (t_val (d_isi (T := "str") rfl T.b_isinstance rfl T.b_str (by decide +kernel) (d_w (d_at hu (w_var (pv 1)) d_int fun _ _ => rfl))))) (t_or (t_ninA hu65 (d_w (d_at hu (w_var (pv 1)) d_int fun _ _ => rfl)) (d_w (d_const (v := .ref a_WORDS) (pe_glob rfl h_WORDS rfl) fun E => .cst (s_WORDS E) (.cons (.str _) (.cons (.str _) (.cons (.str _) .nil)))))) (t_or (t_not (t_val (d_isi (T := "tuple") rfl T.b_isinstance rfl T.b_tuple (by decide +kernel) (d_w (d_at hu (w_var (pv 1)) d_int fun _ _ => rfl))))) (t_or1 (t_not (t_tru (d_w (d_at hu (w_var (pv 1)) d_int fun _ _ => rfl))))))))) (ss_one (s_ret d_bl)) ss_nil)
  (ss_cons (s_if (t_tru (n_w (n_lc (own := [("one", 2)]) (by decide) rfl nd (i_seq (d_at hu (w_var (pv 1)) d_int fun _ _ => rfl)) (blkOk_by (own := [("one", 2)]) (N := N_is_showing_of) (sc := defScope s_is_showing_of) (by decide +kernel)) (fun _ _ _ _ _ => (g_name (i := 2) nd rfl (by first | exact Or.inl rfl | exact Or.inr rfl))) (fun _ _ _ _ _ => (ts_one (t_not (t_tru (d_w (d_call (ok_is_part T) (hr.mono (by decide)) takes0 rfl (a_cons moD (d_var (pv 0)) (a_cons moD (d_at hu (w_var (pv 1)) d_int fun _ _ => rfl) (a_cons moD (d_var (pv 2)) a_nil))))))))) (fun _ _ _ _ _ => (d_var (pv 2)))))) (ss_one (s_ret d_bl)) ss_nil)
  (ss_one (s_ret (d_call (ok_rises T) (hr.mono (by decide)) tk rfl (a_cons moD (n_d (n_lc (own := [("part", 3)]) (by decide) rfl nd (i_seq (d_at hu (w_var (pv 1)) d_int fun _ _ => rfl)) (blkOk_by (own := [("part", 3)]) (N := N_is_showing_of) (sc := defScope s_is_showing_of) (by decide +kernel)) (fun _ _ _ _ _ => (g_name (i := 3) nd rfl (by first | exact Or.inl rfl | exact Or.inr rfl))) (fun _ _ _ _ _ => ts_nil) (fun _ _ _ _ _ => (d_at hu (w_var (pv 3)) d_int fun _ _ => rfl)))) a_nil)))))))
theorem sc_common : FnScope N_common p_common (defScope s_common) := ⟨rfl, rfl, rfl, by decide +kernel, rfl, by decide +kernel, by decide +kernel⟩
theorem ok_common (T : Txt K mg base cl) : Fn P w K mg base cl "common" 1 p_common F_common := by
  exact Dfn.mk T.d_common sc_common fun hr tk hp hu hu65 nd =>
    (ss_cons (s_while 1000 [] hp (t_ne hu (w_var (pv 1)) (d_w d_int))
  (ss_one (s_par (i := 0) (j := 1) rfl nd rfl rfl (by decide) rfl rfl (a_cons moD (d_var (pv 1)) (a_cons moD (d_mod (d_var (pv 0)) (d_var (pv 1))) a_nil)) rfl)))
  (ss_one (s_ret (d_var (pv 0)))))
theorem sc_turn_of : FnScope N_turn_of p_turn_of (defScope s_turn_of) := ⟨rfl, rfl, rfl, by decide +kernel, rfl, by decide +kernel, by decide +kernel⟩
theorem ok_turn_of (T : Txt K mg base cl) : Fn P w K mg base cl "turn_of" 2 p_turn_of F_turn_of := by
  exact Dfn.mk T.d_turn_of sc_turn_of fun hr tk hp hu hu65 nd =>
    (ss_cons (s_set (i := 1) nd rfl (by first | exact Or.inl rfl | exact Or.inr rfl) d_int)
  (ss_cons (s_for [2, 3, 4, 5] hp rfl (i_seq (d_var (pv 0))) (g_tup rfl (gs_cons (g_name (i := 2) nd rfl (by first | exact Or.inl rfl | exact Or.inr rfl)) (gs_cons (g_name (i := 3) nd rfl (by first | exact Or.inl rfl | exact Or.inr rfl)) (gs_cons (g_name (i := 4) nd rfl (by first | exact Or.inl rfl | exact Or.inr rfl)) gs_nil))) (gs_lenS (gs_lenS (gs_lenS gs_len0))))
  (ss_cons (s_set (i := 5) nd rfl (by first | exact Or.inl rfl | exact Or.inr rfl) (d_if (t_eq hu (w_var (pv 3)) (d_w d_str)) (d_mul d_int (d_var (pv 2))) (d_var (pv 2)) coR))
  (ss_one (s_set (i := 1) nd rfl (by first | exact Or.inl rfl | exact Or.inr rfl) (d_mul (d_fdiv (d_var (pv 1)) (d_call (ok_common T) (hr.mono (by decide)) tk rfl (a_cons moD (d_var (pv 1)) (a_cons moD (d_var (pv 5)) a_nil)))) (d_var (pv 5)))))))
  (ss_one (s_ret (d_var (pv 1))))))
theorem sc_all_lots : FnScope N_all_lots p_all_lots (defScope s_all_lots) := ⟨rfl, rfl, rfl, by decide +kernel, rfl, by decide +kernel, by decide +kernel⟩
theorem ok_all_lots (T : Txt K mg base cl) : Fn P w K mg base cl "all_lots" 1 p_all_lots F_all_lots := by
  exact DfnL.mk T.l_all_lots sc_all_lots fun TB hr tk hp hu hu65 nd =>
    (ss_cons (s_setN (i := 1) nd rfl (by first | exact Or.inl rfl | exact Or.inr rfl) (d_if (t_eq hu (d_w (d_at hu (w_var (pv 0)) d_int fun _ _ => rfl)) (d_w d_str)) (n_dis1 hu (d_tupRg (p4 := ⟨0, 0, 0, 0⟩) rfl rfl T.b_tuple rfl T.b_range (d_at hu (w_var (pv 0)) d_int fun _ _ => rfl)) d_bl) n_dnew coN))
  (ss_cons (s_for [2] hp rfl (i_range1 rfl T.b_range (a_cons moD (d_at hu (w_var (pv 0)) d_int fun _ _ => rfl) a_nil)) (g_name (i := 2) nd rfl (by first | exact Or.inl rfl | exact Or.inr rfl))
  (ss_one (s_put (i := 1) hu (pv 1) (d_tup (a_cons moD (d_var (pv 2)) a_nil)) d_bl)))
  (ss_cons (s_for [3, 4, 5, 6, 7] hp rfl (i_seq (d_at hu (w_var (pv 0)) d_int fun _ _ => rfl)) (g_tup rfl (gs_cons (g_name (i := 3) nd rfl (by first | exact Or.inl rfl | exact Or.inr rfl)) (gs_cons (g_name (i := 4) nd rfl (by first | exact Or.inl rfl | exact Or.inr rfl)) (gs_cons (g_name (i := 5) nd rfl (by first | exact Or.inl rfl | exact Or.inr rfl)) gs_nil))) (gs_lenS (gs_lenS (gs_lenS gs_len0))))
  (ss_one (s_for [6, 7] hp rfl (i_seq (d_var (pv 5))) (g_tup rfl (gs_cons (g_name (i := 6) nd rfl (by first | exact Or.inl rfl | exact Or.inr rfl)) (gs_cons (g_name (i := 7) nd rfl (by first | exact Or.inl rfl | exact Or.inr rfl)) gs_nil)) (gs_lenS (gs_lenS gs_len0)))
  (ss_one (s_put (i := 1) hu (pv 1) (d_var (pv 6)) d_bl)))))
  (ss_one (s_ret (n_d (n_sortL TB rfl (by show ((("all_lots" : Str) ++ ".<locals>.") ++ "<lambda>" : Str) = tbQ; decide +kernel) rfl hu hr.depth (w_var (pv 1)) rfl T.b_sorted T.b_len rfl (by decide +kernel) rfl rfl rfl (by decide +kernel) rfl rfl (by decide) fun _ _ _ _ => rfl)))))))
theorem sc_do_nest : FnScope N_do_nest p_do_nest (defScope s_do_nest) := ⟨rfl, rfl, rfl, by decide +kernel, rfl, by decide +kernel, by decide +kernel⟩
theorem ok_do_nest (T : Txt K mg base cl) : Fn P w K mg base cl "do_nest" 1 p_do_nest F_do_nest := by
  exact Dfn.mk T.d_do_nest sc_do_nest fun hr tk hp hu hu65 nd =>
    (ss_cons (s_for [1, 2, 3, 4] hp rfl (i_enum rfl T.b_enumerate (a_cons moD (d_var (pv 0)) a_nil)) (g_tup rfl (gs_cons (g_name (i := 1) nd rfl (by first | exact Or.inl rfl | exact Or.inr rfl)) (gs_cons (g_name (i := 2) nd rfl (by first | exact Or.inl rfl | exact Or.inr rfl)) gs_nil)) (gs_lenS (gs_lenS gs_len0)))
  (ss_one (s_for [3, 4] hp rfl (i_seq (d_cut (d_var (pv 0)) (o_some (d_add (d_var (pv 1)) d_int)) o_no)) (g_name (i := 3) nd rfl (by first | exact Or.inl rfl | exact Or.inr rfl))
  (ss_cons (s_setLc (i := 4) (own := [("one", 5)]) (by decide) rfl nd rfl rfl (sw_true rfl rfl rfl (by decide +kernel)) (i_seq (d_var (pv 2))) (blkOk_by (own := [("one", 5)]) (N := N_do_nest) (sc := defScope s_do_nest) (by decide +kernel)) (fun _ _ _ _ _ => (g_name (i := 5) nd rfl (by first | exact Or.inl rfl | exact Or.inr rfl))) (fun _ _ _ _ _ => (ts_one (t_inA hu65 (w_var (pv 5)) (w_var (pv 3))))) (fun _ _ _ _ _ => (d_var (pv 5))))
  (ss_one (s_if (PW.pt (t_and (t_tru (w_var (pv 4))) (t_and1 (t_ne hu (d_w (d_len rfl T.b_len (a_cons moW (w_var (pv 4)) a_nil))) (d_w (d_len rfl T.b_len (a_cons moW (w_var (pv 2)) a_nil))))))) (ss_one (s_ret d_bl)) ss_nil))))))
  (ss_one (s_ret d_bl)))
theorem sc_is_poll : FnScope N_is_poll p_is_poll (defScope s_is_poll) := ⟨rfl, rfl, rfl, by decide +kernel, rfl, by decide +kernel, by decide +kernel⟩
theorem ok_is_poll (T : Txt K mg base cl) : Fn P w K mg base cl "is_poll" 5 p_is_poll F_is_poll := by
  obtain ⟨t_MOST_THINGS, h_MOST_THINGS⟩ := T.c_MOST_THINGS
  obtain ⟨a_KINDS, h_KINDS, s_KINDS⟩ := T.c_KINDS
  obtain ⟨t_MOST_SHOWINGS, h_MOST_SHOWINGS⟩ := T.c_MOST_SHOWINGS
  obtain ⟨t_MOST_TURN, h_MOST_TURN⟩ := T.c_MOST_TURN
  exact Dfn.mk T.d_is_poll sc_is_poll fun hr tk hp hu hu65 nd =>
    (ss_cons (s_if (PW.pt (t_or (t_not (t_val (d_isi (T := "tuple") rfl T.b_isinstance rfl T.b_tuple (by decide +kernel) (w_var (pv 0))))) (t_or (t_ne hu (d_w (d_len rfl T.b_len (a_cons moW (w_var (pv 0)) a_nil))) (d_w d_int)) (t_or1 (t_not (t_tru (d_w (d_call (ok_is_within T) (hr.mono (by decide)) tk rfl (a_cons moD (d_at hu (w_var (pv 0)) d_int fun _ _ => rfl) (a_cons moD d_int (a_cons moD (d_const (v := .int 6) (pe_glob rfl h_MOST_THINGS ⟨_, rfl⟩) fun _ => .int _) a_nil))))))))))) (ss_one (s_ret d_bl)) ss_nil)
  (ss_cons (s_if (PW.pt (t_or (t_not (t_val (d_isi (T := "str") rfl T.b_isinstance rfl T.b_str (by decide +kernel) (d_w (d_at hu (w_var (pv 0)) d_int fun _ _ => rfl))))) (t_or (t_ninA hu65 (d_w (d_at hu (w_var (pv 0)) d_int fun _ _ => rfl)) (d_w (d_const (v := .ref a_KINDS) (pe_glob rfl h_KINDS rfl) fun E => .cst (s_KINDS E) (.cons (.str _) (.cons (.str _) .nil))))) (t_or1 (t_not (t_val (d_isi (T := "tuple") rfl T.b_isinstance rfl T.b_tuple (by decide +kernel) (d_w (d_at hu (w_var (pv 0)) d_int fun _ _ => rfl))))))))) (ss_one (s_ret d_bl)) ss_nil)
  (ss_cons (s_if (PW.pt (t_or (t_not (t_chain op_le op_le d_int (d_len rfl T.b_len (a_cons moW (d_w (d_at hu (w_var (pv 0)) d_int fun _ _ => rfl)) a_nil)) (d_const (v := .int 3) (pe_glob rfl h_MOST_SHOWINGS ⟨_, rfl⟩) fun _ => .int _))) (t_or1 (t_tru (n_w (n_lc (own := [("one", 1)]) (by decide) rfl nd (i_seq (d_at hu (w_var (pv 0)) d_int fun _ _ => rfl)) (blkOk_by (own := [("one", 1)]) (N := N_is_poll) (sc := defScope s_is_poll) (by decide +kernel)) (fun _ _ _ _ _ => (g_name (i := 1) nd rfl (by first | exact Or.inl rfl | exact Or.inr rfl))) (fun _ _ _ _ _ => (ts_one (t_not (t_tru (d_w (d_call (ok_is_showing_of T) (hr.mono (by decide)) takes0 rfl (a_cons moD (d_at hu (w_var (pv 0)) d_int fun _ _ => rfl) (a_cons moD (d_var (pv 1)) a_nil)))))))) (fun _ _ _ _ _ => (d_var (pv 1))))))))) (ss_one (s_ret d_bl)) ss_nil)
  (ss_cons (s_if (t_gt (d_call (ok_turn_of T) (hr.mono (by decide)) tk rfl (a_cons moD (d_at hu (w_var (pv 0)) d_int fun _ _ => rfl) a_nil)) (d_const (v := .int 1000) (pe_glob rfl h_MOST_TURN ⟨_, rfl⟩) fun _ => .int _)) (ss_one (s_ret d_bl)) ss_nil)
  (ss_cons (s_if (t_eq hu (d_w (d_at hu (w_var (pv 0)) d_int fun _ _ => rfl)) (d_w d_str)) (ss_one (s_ret (d_notT (n_w (n_lc2 (own := [("showing", 2), ("lot", 3), ("share", 4)]) (own1 := [3, 4]) ob_name (by decide) (by decide) (by decide) rfl nd (i_seq (d_at hu (w_var (pv 0)) d_int fun _ _ => rfl)) (blkOk_by (own := [("showing", 2), ("lot", 3), ("share", 4)]) (N := N_is_poll) (sc := defScope s_is_poll) (by decide +kernel)) (fun _ _ _ _ _ => (g_name (i := 2) nd rfl (by first | exact Or.inl rfl | exact Or.inr rfl))) (fun _ _ _ _ _ => ts_nil) (fun _ _ _ _ _ => (i_seq (d_at hu (w_var (pv 2)) d_int fun _ _ => rfl))) (fun _ _ _ _ _ => (g_tup rfl (gs_cons (g_name (i := 3) nd rfl (by first | exact Or.inl rfl | exact Or.inr rfl)) (gs_cons (g_name (i := 4) nd rfl (by first | exact Or.inl rfl | exact Or.inr rfl)) gs_nil)) (gs_lenS (gs_lenS gs_len0)))) (fun _ _ _ _ _ => (ts_one (t_gt (d_len rfl T.b_len (a_cons moW (w_var (pv 3)) a_nil)) d_int))) (fun _ _ _ _ _ => d_int)))))) ss_nil)
  (ss_one (s_ret (d_call (ok_do_nest T) (hr.mono (by decide)) tk rfl (a_cons moD (d_call (ok_all_lots T) (hr.mono (by decide)) tk rfl (a_cons moD (d_var (pv 0)) a_nil)) a_nil)))))))))
theorem sc_look : FnScope N_look p_look (defScope s_look) := ⟨rfl, rfl, rfl, by decide +kernel, rfl, by decide +kernel, by decide +kernel⟩
theorem ok_look (T : Txt K mg base cl) : Fn P w K mg base cl "look" 6 p_look F_look := by
  exact Dfn.mk T.d_look sc_look fun hr tk hp hu hu65 nd =>
    (ss_one (s_if (t_not (t_tru (d_w (d_call (ok_is_poll T) (hr.mono (by decide)) tk rfl (a_cons moD (d_var (pv 0)) a_nil))))) (ss_one (s_raise rfl tk T.x_BadPoll rfl)) ss_nil))
theorem sc_look_number : FnScope N_look_number p_look_number (defScope s_look_number) := ⟨rfl, rfl, rfl, by decide +kernel, rfl, by decide +kernel, by decide +kernel⟩
theorem ok_look_number (T : Txt K mg base cl) : Fn P w K mg base cl "look_number" 2 p_look_number F_look_number := by
  obtain ⟨t_MOST_ASKED, h_MOST_ASKED⟩ := T.c_MOST_ASKED
  exact Dfn.mk T.d_look_number sc_look_number fun hr tk hp hu hu65 nd =>
    (ss_one (s_if (t_not (t_tru (d_w (d_call (ok_is_within T) (hr.mono (by decide)) tk rfl (a_cons moD (d_var (pv 0)) (a_cons moD d_int (a_cons moD (d_const (v := .int 100000) (pe_glob rfl h_MOST_ASKED ⟨_, rfl⟩) fun _ => .int _) a_nil))))))) (ss_one (s_raise rfl tk T.x_BadNumber rfl)) ss_nil))
theorem sc_up_over : FnScope N_up_over p_up_over (defScope s_up_over) := ⟨rfl, rfl, rfl, by decide +kernel, rfl, by decide +kernel, by decide +kernel⟩
theorem ok_up_over (T : Txt K mg base cl) : Fn P w K mg base cl "up_over" 1 p_up_over F_up_over := by
  exact Dfn.mk T.d_up_over sc_up_over fun hr tk hp hu hu65 nd =>
    (ss_one (s_ret (d_neg (d_fdiv (d_neg (d_var (pv 0))) (d_var (pv 1))))))
theorem sc_stretch : FnScope N_stretch p_stretch (defScope s_stretch) := ⟨rfl, rfl, rfl, by decide +kernel, rfl, by decide +kernel, by decide +kernel⟩
theorem ok_stretch (T : Txt K mg base cl) : Fn P w K mg base cl "stretch" 2 p_stretch F_stretch := by
  exact Dfn.mk T.d_stretch sc_stretch fun hr tk hp hu hu65 nd =>
    (ss_cons (s_if (t_eq hu (w_var (pv 2)) (d_w d_str)) (ss_one (s_par (i := 4) (j := 5) rfl nd rfl rfl (by decide) rfl rfl (a_cons moD (d_call (ok_up_over T) (hr.mono (by decide)) tk rfl (a_cons moD (d_mul (d_var (pv 3)) (d_var (pv 0))) (a_cons moD (d_var (pv 1)) a_nil))) (a_cons moD (d_sub (d_call (ok_up_over T) (hr.mono (by decide)) tk rfl (a_cons moD (d_mul (d_add (d_var (pv 3)) d_int) (d_var (pv 0))) (a_cons moD (d_var (pv 1)) a_nil))) d_int) a_nil)) rfl)) (ss_one (s_if (t_eq hu (w_var (pv 2)) (d_w d_str)) (ss_one (s_par (i := 4) (j := 5) rfl nd rfl rfl (by decide) rfl rfl (a_cons moD (d_add (d_fdiv (d_mul (d_sub (d_var (pv 3)) d_int) (d_var (pv 0))) (d_var (pv 1))) d_int) (a_cons moD (d_fdiv (d_mul (d_var (pv 3)) (d_var (pv 0))) (d_var (pv 1))) a_nil)) rfl)) (ss_one (s_par (i := 4) (j := 5) rfl nd rfl rfl (by decide) rfl rfl (a_cons moD (d_call (ok_up_over T) (hr.mono (by decide)) tk rfl (a_cons moD (d_mul (d_sub (d_mul d_int (d_var (pv 3))) d_int) (d_var (pv 0))) (a_cons moD (d_mul d_int (d_var (pv 1))) a_nil))) (a_cons moD (d_sub (d_call (ok_up_over T) (hr.mono (by decide)) tk rfl (a_cons moD (d_mul (d_add (d_mul d_int (d_var (pv 3))) d_int) (d_var (pv 0))) (a_cons moD (d_mul d_int (d_var (pv 1))) a_nil))) d_int) a_nil)) rfl)))))
  (ss_one (s_ret (d_tup (a_cons moD (d_max2 rfl rfl T.b_max (a_cons moD (d_var (pv 4)) (a_cons moD d_int a_nil))) (a_cons moD (d_min2 rfl rfl T.b_min (a_cons moD (d_var (pv 5)) (a_cons moD (d_var (pv 0)) a_nil))) a_nil))))))
theorem sc_ends_of : FnScope N_ends_of p_ends_of (defScope s_ends_of) := ⟨rfl, rfl, rfl, by decide +kernel, rfl, by decide +kernel, by decide +kernel⟩
theorem ok_ends_of (T : Txt K mg base cl) : Fn P w K mg base cl "ends_of" 3 p_ends_of F_ends_of := by
  exact Dfn.mk T.d_ends_of sc_ends_of fun hr tk hp hu hu65 nd =>
    (ss_cons (s_setDc (i := 2) (own := [("lot", 6)]) hu (by decide) rfl nd rfl rfl (sw_dct rfl rfl rfl (by decide +kernel)) (i_seq (d_call (ok_all_lots T) (hr.mono (by decide)) tk rfl (a_cons moD (d_var (pv 0)) a_nil))) (blkOk_by (own := [("lot", 6)]) (N := N_ends_of) (sc := defScope s_ends_of) (by decide +kernel)) (fun _ _ _ _ _ => (g_name (i := 6) nd rfl (by first | exact Or.inl rfl | exact Or.inr rfl))) (fun _ _ _ _ _ => (d_var (pv 6))) (fun _ _ _ _ _ => (d_tup (a_cons moD d_int (a_cons moD (d_var (pv 1)) a_nil)))))
  (ss_cons (s_if (t_eq hu (d_w (d_at hu (w_var (pv 0)) d_int fun _ _ => rfl)) (d_w d_str)) (ss_one (s_put (i := 2) hu (pv 2) (d_tupRg (p4 := ⟨0, 0, 0, 0⟩) rfl rfl T.b_tuple rfl T.b_range (d_at hu (w_var (pv 0)) d_int fun _ _ => rfl)) (d_tup (a_cons moD (d_var (pv 1)) (a_cons moD (d_var (pv 1)) a_nil))))) ss_nil)
  (ss_cons (s_for [3, 4, 5, 6, 7, 8, 9] hp rfl (i_seq (d_at hu (w_var (pv 0)) d_int fun _ _ => rfl)) (g_tup rfl (gs_cons (g_name (i := 3) nd rfl (by first | exact Or.inl rfl | exact Or.inr rfl)) (gs_cons (g_name (i := 4) nd rfl (by first | exact Or.inl rfl | exact Or.inr rfl)) (gs_cons (g_name (i := 5) nd rfl (by first | exact Or.inl rfl | exact Or.inr rfl)) gs_nil))) (gs_lenS (gs_lenS (gs_lenS gs_len0))))
  (ss_one (s_for [6, 7, 8, 9] hp rfl (i_seq (d_var (pv 5))) (g_tup rfl (gs_cons (g_name (i := 6) nd rfl (by first | exact Or.inl rfl | exact Or.inr rfl)) (gs_cons (g_name (i := 7) nd rfl (by first | exact Or.inl rfl | exact Or.inr rfl)) gs_nil)) (gs_lenS (gs_lenS gs_len0)))
  (ss_cons (s_asg (d_call (ok_stretch T) (hr.mono (by decide)) tk rfl (a_cons moD (d_var (pv 1)) (a_cons moD (d_var (pv 3)) (a_cons moD (d_var (pv 4)) (a_cons moD (d_var (pv 7)) a_nil))))) (g_tup rfl (gs_cons (g_name (i := 8) nd rfl (by first | exact Or.inl rfl | exact Or.inr rfl)) (gs_cons (g_name (i := 9) nd rfl (by first | exact Or.inl rfl | exact Or.inr rfl)) gs_nil)) (gs_lenS (gs_lenS gs_len0))))
  (ss_one (s_put (i := 2) hu (pv 2) (d_var (pv 6)) (d_tup (a_cons moD (d_max2 rfl rfl T.b_max (a_cons moD (d_var (pv 8)) (a_cons moD (d_at hu (d_w (d_at hu (w_var (pv 2)) (d_var (pv 6)) fun _ _ => rfl)) d_int fun _ _ => rfl) a_nil))) (a_cons moD (d_min2 rfl rfl T.b_min (a_cons moD (d_var (pv 9)) (a_cons moD (d_at hu (d_w (d_at hu (w_var (pv 2)) (d_var (pv 6)) fun _ _ => rfl)) d_int fun _ _ => rfl) a_nil))) a_nil)))))))))
  (ss_one (s_fz 2 (s_ret (d_var (pv 2))))))))
theorem sc_ends : FnScope N_ends p_ends (defScope s_ends) := ⟨rfl, rfl, rfl, by decide +kernel, rfl, by decide +kernel, by decide +kernel⟩
theorem ok_ends (T : Txt K mg base cl) : Fn P w K mg base cl "ends" 7 p_ends F_ends := by
  exact Dfn.mk T.d_ends sc_ends fun hr tk hp hu hu65 nd =>
    (ss_cons (s_expr (d_call (ok_look T) (hr.mono (by decide)) tk rfl (a_cons moD (d_var (pv 0)) a_nil)))
  (ss_cons (s_expr (d_call (ok_look_number T) (hr.mono (by decide)) tk rfl (a_cons moD (d_var (pv 1)) a_nil)))
  (ss_cons (s_if (PW.pt (t_or (t_not (t_tru (d_w (d_call (ok_is_lot T) (hr.mono (by decide)) tk rfl (a_cons moD (d_at hu (w_var (pv 0)) d_int fun _ _ => rfl) (a_cons moD (d_var (pv 2)) a_nil)))))) (t_or1 (t_ninA hu65 (w_var (pv 2)) (d_w (d_call (ok_all_lots T) (hr.mono (by decide)) tk rfl (a_cons moD (d_var (pv 0)) a_nil))))))) (ss_one (s_raise rfl tk T.x_BadLot rfl)) ss_nil)
  (ss_one (s_ret (d_at hu (d_w (d_call (ok_ends_of T) (hr.mono (by decide)) tk rfl (a_cons moD (d_var (pv 0)) (a_cons moD (d_var (pv 1)) a_nil)))) (d_var (pv 2)) fun _ _ => rfl))))))
theorem sc__law_cell : FnScope N__law_cell p__law_cell (defScope s__law_cell) := ⟨rfl, rfl, rfl, by decide +kernel, rfl, by decide +kernel, by decide +kernel⟩
theorem ok__law_cell (T : Txt K mg base cl) : Fn P w K mg base cl "_law_cell" 1 p__law_cell F__law_cell := by
  exact Dfn.mk T.d__law_cell sc__law_cell fun hr tk hp hu hu65 nd =>
    (ss_cons (s_if (t_lt (d_var (pv 1)) (d_len rfl T.b_len (a_cons moW (w_var (pv 0)) a_nil))) (ss_one (s_ret (d_at hu (w_var (pv 0)) (d_var (pv 1)) fun _ _ => rfl))) ss_nil)
  (ss_one (s_ret d_int)))
theorem sc__law_row : FnScope N__law_row p__law_row (defScope s__law_row) := ⟨rfl, rfl, rfl, by decide +kernel, rfl, by decide +kernel, by decide +kernel⟩
theorem ok__law_row (T : Txt K mg base cl) : Fn P w K mg base cl "_law_row" 2 p__law_row F__law_row := by
  exact Dfn.mk T.d__law_row sc__law_row fun hr tk hp hu hu65 nd =>
    (ss_cons (s_set (i := 2) nd rfl (by first | exact Or.inl rfl | exact Or.inr rfl) (d_call (ok__law_cell T) (hr.mono (by decide)) tk rfl (a_cons moD (d_var (pv 0)) (a_cons moD (d_var (pv 1)) a_nil))))
  (ss_cons (s_setN (i := 3) nd rfl (by first | exact Or.inl rfl | exact Or.inr rfl) (n_lst a_nil))
  (ss_cons (s_for [4] hp rfl (i_range1 rfl T.b_range (a_cons moD d_int a_nil)) (g_name (i := 4) nd rfl (by first | exact Or.inl rfl | exact Or.inr rfl))
  (ss_one (s_if (t_lt (d_call (ok__law_cell T) (hr.mono (by decide)) tk rfl (a_cons moD (d_var (pv 0)) (a_cons moD (d_var (pv 1)) a_nil))) (d_pow d_int d_int)) (ss_cons (s_set (i := 2) nd rfl (by first | exact Or.inl rfl | exact Or.inr rfl) (d_mod (d_add (d_add (d_add (d_mul (d_var (pv 2)) d_int) (d_mul d_int (d_var (pv 4)))) d_int) (d_call (ok__law_cell T) (hr.mono (by decide)) tk rfl (a_cons moD (d_var (pv 0)) (a_cons moD (d_mod (d_add (d_add (d_var (pv 1)) d_int) (d_var (pv 4))) d_int) a_nil)))) d_int))
  (ss_one (s_app (i := 3) (pv 3) (d_mod (d_fdiv (d_var (pv 2)) d_int) d_int)))) (ss_cons (s_app (i := 3) (pv 3) (d_mod (d_var (pv 2)) d_int))
  (ss_one (s_set (i := 2) nd rfl (by first | exact Or.inl rfl | exact Or.inr rfl) (d_fdiv (d_var (pv 2)) d_int)))))))
  (ss_one (s_fz 3 (s_ret (d_var (pv 3))))))))
theorem sc__law_share : FnScope N__law_share p__law_share (defScope s__law_share) := ⟨rfl, rfl, rfl, by decide +kernel, rfl, by decide +kernel, by decide +kernel⟩
theorem ok__law_share (T : Txt K mg base cl) : Fn P w K mg base cl "_law_share" 1 p__law_share F__law_share := by
  exact Dfn.mk T.d__law_share sc__law_share fun hr tk hp hu hu65 nd =>
    (ss_cons (s_if (t_eq hu (w_var (pv 3)) (d_w d_str)) (ss_one (s_ret (d_fdiv (d_mul (d_var (pv 2)) (d_var (pv 0))) (d_var (pv 1))))) ss_nil)
  (ss_cons (s_if (t_eq hu (w_var (pv 3)) (d_w d_str)) (ss_one (s_ret (d_fdiv (d_sub (d_add (d_mul (d_var (pv 2)) (d_var (pv 0))) (d_var (pv 1))) d_int) (d_var (pv 1))))) ss_nil)
  (ss_one (s_ret (d_fdiv (d_add (d_mul (d_mul d_int (d_var (pv 2))) (d_var (pv 0))) (d_var (pv 1))) (d_mul d_int (d_var (pv 1))))))))
theorem sc__law_spread : FnScope N__law_spread p__law_spread (defScope s__law_spread) := ⟨rfl, rfl, rfl, by decide +kernel, rfl, by decide +kernel, by decide +kernel⟩
theorem ok__law_spread (T : Txt K mg base cl) : Fn P w K mg base cl "_law_spread" 1 p__law_spread F__law_spread := by
  exact Dfn.mk T.d__law_spread sc__law_spread fun hr tk hp hu hu65 nd =>
    (ss_cons (s_if (t_eq hu (w_var (pv 4)) (d_w d_str)) (ss_one (s_ret (n_d (n_lc (own := [("_law_thing", 7)]) (by decide) rfl nd (i_range1 rfl T.b_range (a_cons moD (d_var (pv 3)) a_nil)) (blkOk_by (own := [("_law_thing", 7)]) (N := N__law_spread) (sc := defScope s__law_spread) (by decide +kernel)) (fun _ _ _ _ _ => (g_name (i := 7) nd rfl (by first | exact Or.inl rfl | exact Or.inr rfl))) (fun _ _ _ _ _ => ts_nil) (fun _ _ _ _ _ => (d_mod (d_at hu (w_var (pv 0)) (d_mod (d_add (d_var (pv 1)) (d_var (pv 7))) d_int) fun _ _ => rfl) (d_add (d_var (pv 2)) d_int))))))) ss_nil)
  (ss_cons (s_setN (i := 5) nd rfl (by first | exact Or.inl rfl | exact Or.inr rfl) (n_rep (n_w (n_lst (a_cons moD d_int a_nil))) (d_var (pv 3))))
  (ss_cons (s_for [6] hp rfl (i_range1 rfl T.b_range (a_cons moD (d_var (pv 2)) a_nil)) (g_name (i := 6) nd rfl (by first | exact Or.inl rfl | exact Or.inr rfl))
  (ss_one (s_augL (i := 5) (pv 5) (d_mod (d_at hu (w_var (pv 0)) (d_mod (d_add (d_var (pv 1)) (d_mul (d_var (pv 6)) (d_add d_int (d_mod (d_at hu (w_var (pv 0)) (d_mod (d_var (pv 1)) d_int) fun _ _ => rfl) d_int)))) d_int) fun _ _ => rfl) (d_var (pv 3))) d_int)))
  (ss_one (s_fz 5 (s_ret (d_var (pv 5))))))))
theorem sc__law_nest : FnScope N__law_nest p__law_nest (defScope s__law_nest) := ⟨rfl, rfl, rfl, by decide +kernel, rfl, by decide +kernel, by decide +kernel⟩
theorem ok__law_nest (T : Txt K mg base cl) : Fn P w K mg base cl "_law_nest" 1 p__law_nest F__law_nest := by
  exact Dfn.mk T.d__law_nest sc__law_nest fun hr tk hp hu hu65 nd =>
    (ss_cons (s_setN (i := 4) nd rfl (by first | exact Or.inl rfl | exact Or.inr rfl) (n_lc (own := [("_law_thing", 7)]) (by decide) rfl nd (i_range1 rfl T.b_range (a_cons moD (d_var (pv 2)) a_nil)) (blkOk_by (own := [("_law_thing", 7)]) (N := N__law_nest) (sc := defScope s__law_nest) (by decide +kernel)) (fun _ _ _ _ _ => (g_name (i := 7) nd rfl (by first | exact Or.inl rfl | exact Or.inr rfl))) (fun _ _ _ _ _ => ts_nil) (fun _ _ _ _ _ => (d_mod (d_add (d_var (pv 7)) (d_at hu (w_var (pv 0)) (d_mod (d_var (pv 1)) d_int) fun _ _ => rfl)) (d_var (pv 2))))) (hs := sw_cell rfl))
  (ss_cons (s_setLc (i := 5) (own := [("_law_thing", 7)]) (by decide) rfl nd rfl rfl (sw_true rfl rfl rfl (by decide +kernel)) (i_range1 rfl T.b_range (a_cons moD (d_var (pv 2)) a_nil)) (blkOk_by (own := [("_law_thing", 7)]) (N := N__law_nest) (sc := defScope s__law_nest) (by decide +kernel)) (fun _ _ _ _ _ => (g_name (i := 7) nd rfl (by first | exact Or.inl rfl | exact Or.inr rfl))) (fun _ _ _ _ _ => ts_nil) (fun _ _ _ _ _ => (d_tup (a_cons moD (d_var (pv 7)) a_nil))))
  (ss_cons (s_if (t_eq hu (w_var (pv 3)) (d_w d_str)) (ss_one (s_fz 5 (s_ret (d_var (pv 5))))) ss_nil)
  (ss_cons (s_if (t_eq hu (d_w (d_mod (d_at hu (w_var (pv 0)) (d_mod (d_add (d_var (pv 1)) d_int) d_int) fun _ _ => rfl) d_int)) (d_w d_int)) (ss_one (s_fz 4 (s_setN (i := 5) nd rfl (by first | exact Or.inl rfl | exact Or.inr rfl) (n_cat (w_var (pv 5)) (n_w (n_lc (own := [("_law_many", 8)]) (by decide) rfl nd (i_range2 rfl T.b_range (a_cons moD d_int (a_cons moD (d_add (d_var (pv 2)) d_int) a_nil))) (blkOk_by (own := [("_law_many", 8)]) (N := N__law_nest) (sc := defScope s__law_nest) (by decide +kernel)) (fun _ _ _ _ _ => (g_name (i := 8) nd rfl (by first | exact Or.inl rfl | exact Or.inr rfl))) (fun _ _ _ _ _ => ts_nil) (fun _ _ _ _ _ => (d_tupOf rfl T.b_tuple (a_cons moD (n_d (n_sort hu rfl T.b_sorted (a_cons moW (d_w (d_cut (d_var (pv 4)) o_no (o_some (d_var (pv 8))))) a_nil))) a_nil))))))))) (ss_cons (s_set (i := 6) nd rfl (by first | exact Or.inl rfl | exact Or.inr rfl) (d_fdiv (d_add (d_var (pv 2)) d_int) d_int))
  (ss_one (s_fz 4 (s_setN (i := 5) nd rfl (by first | exact Or.inl rfl | exact Or.inr rfl) (n_cat (w_var (pv 5)) (n_w (n_lst (a_cons moD (d_tupOf rfl T.b_tuple (a_cons moD (n_d (n_sort hu rfl T.b_sorted (a_cons moW (d_w (d_cut (d_var (pv 4)) o_no (o_some (d_var (pv 6))))) a_nil))) a_nil)) (a_cons moD (d_tupOf rfl T.b_tuple (a_cons moD (n_d (n_sort hu rfl T.b_sorted (a_cons moW (d_w (d_cut (d_var (pv 4)) (o_some (d_var (pv 6))) o_no)) a_nil))) a_nil)) (a_cons moD (d_tupRg (p4 := ⟨0, 0, 0, 0⟩) rfl rfl T.b_tuple rfl T.b_range (d_var (pv 2))) a_nil)))))))))))
  (ss_one (s_fz 5 (s_ret (n_d (n_sortSet rfl hu rfl T.b_sorted rfl T.b_set (n_w (n_lc (own := [("_law_lot", 9)]) (by decide) rfl nd (i_seq (d_var (pv 5))) (blkOk_by (own := [("_law_lot", 9)]) (N := N__law_nest) (sc := defScope s__law_nest) (by decide +kernel)) (fun _ _ _ _ _ => (g_name (i := 9) nd rfl (by first | exact Or.inl rfl | exact Or.inr rfl))) (fun _ _ _ _ _ => (ts_one (t_ne hu (w_var (pv 9)) (d_w (d_tup a_nil))))) (fun _ _ _ _ _ => (d_var (pv 9))))))))))))))
theorem sc__law_poll : FnScope N__law_poll p__law_poll (defScope s__law_poll) := ⟨rfl, rfl, rfl, by decide +kernel, rfl, by decide +kernel, by decide +kernel⟩
theorem ok__law_poll (T : Txt K mg base cl) : Fn P w K mg base cl "_law_poll" 3 p__law_poll F__law_poll := by
  exact Dfn.mk T.d__law_poll sc__law_poll fun hr tk hp hu hu65 nd =>
    (ss_cons (s_set (i := 3) nd rfl (by first | exact Or.inl rfl | exact Or.inr rfl) (d_call (ok__law_row T) (hr.mono (by decide)) tk rfl (a_cons moD (d_var (pv 0)) (a_cons moD (d_var (pv 1)) a_nil))))
  (ss_cons (s_set (i := 4) nd rfl (by first | exact Or.inl rfl | exact Or.inr rfl) (d_add d_int (d_mod (d_at hu (w_var (pv 3)) d_int fun _ _ => rfl) (d_var (pv 2)))))
  (ss_cons (s_set (i := 5) nd rfl (by first | exact Or.inl rfl | exact Or.inr rfl) (d_if (t_eq hu (d_w (d_mod (d_at hu (w_var (pv 3)) d_int fun _ _ => rfl) d_int)) (d_w d_int)) d_str d_str coR))
  (ss_cons (s_set (i := 6) nd rfl (by first | exact Or.inl rfl | exact Or.inr rfl) (d_add d_int (d_mod (d_at hu (w_var (pv 3)) d_int fun _ _ => rfl) (d_at hu (n_w (n_lst (a_cons moD d_int (a_cons moD d_int (a_cons moD d_int a_nil))))) (d_mod (d_at hu (w_var (pv 3)) d_int fun _ _ => rfl) d_int) fun _ _ => rfl))))
  (ss_cons (s_set (i := 7) nd rfl (by first | exact Or.inl rfl | exact Or.inr rfl) (d_call (ok__law_spread T) (hr.mono (by decide)) tk rfl (a_cons moD (d_var (pv 3)) (a_cons moD d_int (a_cons moD (d_var (pv 6)) (a_cons moD (d_var (pv 4)) (a_cons moD (d_var (pv 5)) a_nil)))))))
  (ss_cons (s_setN (i := 8) nd rfl (by first | exact Or.inl rfl | exact Or.inr rfl) (n_lst a_nil))
  (ss_cons (s_for [9, 10, 11, 12, 13, 14, 15] hp rfl (i_range1 rfl T.b_range (a_cons moD (d_add d_int (d_mod (d_at hu (w_var (pv 3)) d_int fun _ _ => rfl) d_int)) a_nil)) (g_name (i := 9) nd rfl (by first | exact Or.inl rfl | exact Or.inr rfl))
  (ss_cons (s_set (i := 10) nd rfl (by first | exact Or.inl rfl | exact Or.inr rfl) (d_at hu (n_w (n_lst (a_cons moD d_int (a_cons moD d_int (a_cons moD d_int (a_cons moD d_int (a_cons moD d_int (a_cons moD d_int (a_cons moD d_int (a_cons moD d_int a_nil)))))))))) (d_mod (d_at hu (w_var (pv 3)) (d_add d_int (d_var (pv 9))) fun _ _ => rfl) (d_if (PW.pt (t_and (t_eq hu (w_var (pv 9)) (d_w d_int)) (t_and1 (t_eq hu (d_w (d_mod (d_at hu (w_var (pv 3)) d_int fun _ _ => rfl) d_int)) (d_w d_int))))) d_int d_int coR)) fun _ _ => rfl))
  (ss_cons (s_set (i := 11) nd rfl (by first | exact Or.inl rfl | exact Or.inr rfl) (d_at hu (n_w (n_lst (a_cons moD d_str (a_cons moD d_str (a_cons moD d_str (a_cons moD d_str a_nil)))))) (d_mod (d_at hu (w_var (pv 3)) (d_add d_int (d_var (pv 9))) fun _ _ => rfl) d_int) fun _ _ => rfl))
  (ss_cons (s_setN (i := 12) nd rfl (by first | exact Or.inl rfl | exact Or.inr rfl) (n_lst a_nil))
  (ss_cons (s_for [13, 14, 15] hp rfl (i_enum rfl T.b_enumerate (a_cons moD (d_call (ok__law_nest T) (hr.mono (by decide)) tk rfl (a_cons moD (d_var (pv 3)) (a_cons moD d_int (a_cons moD (d_var (pv 4)) (a_cons moD (d_var (pv 5)) a_nil))))) a_nil)) (g_tup rfl (gs_cons (g_name (i := 13) nd rfl (by first | exact Or.inl rfl | exact Or.inr rfl)) (gs_cons (g_name (i := 14) nd rfl (by first | exact Or.inl rfl | exact Or.inr rfl)) gs_nil)) (gs_lenS (gs_lenS gs_len0)))
  (ss_cons (s_set (i := 15) nd rfl (by first | exact Or.inl rfl | exact Or.inr rfl) (d_call (ok__law_share T) (hr.mono (by decide)) tk rfl (a_cons moD (d_sum rfl rfl T.b_sum (a_cons moW (n_w (n_lc (own := [("_law_thing", 16)]) (by decide) rfl nd (i_seq (d_var (pv 14))) (blkOk_by (own := [("_law_thing", 16)]) (N := N__law_poll) (sc := defScope s__law_poll) (by decide +kernel)) (fun _ _ _ _ _ => (g_name (i := 16) nd rfl (by first | exact Or.inl rfl | exact Or.inr rfl))) (fun _ _ _ _ _ => ts_nil) (fun _ _ _ _ _ => (d_at hu (w_var (pv 7)) (d_var (pv 16)) fun _ _ => rfl)))) a_nil)) (a_cons moD (d_var (pv 6)) (a_cons moD (d_var (pv 10)) (a_cons moD (d_var (pv 11)) a_nil))))))
  (ss_cons (s_if (t_eq hu (d_w (d_mod (d_at hu (w_var (pv 3)) (d_mod (d_add (d_add d_int (d_mul d_int (d_var (pv 9)))) (d_var (pv 13))) d_int) fun _ _ => rfl) d_int)) (d_w d_int)) (ss_one (s_set (i := 15) nd rfl (by first | exact Or.inl rfl | exact Or.inr rfl) (d_mod (d_add (d_var (pv 15)) d_int) (d_add (d_var (pv 10)) d_int)))) ss_nil)
  (ss_one (s_if (t_gt (d_mod (d_at hu (w_var (pv 3)) (d_mod (d_add (d_add d_int (d_mul d_int (d_var (pv 9)))) (d_var (pv 13))) d_int) fun _ _ => rfl) d_int) d_int) (ss_one (s_app (i := 12) (pv 12) (d_tup (a_cons moD (d_var (pv 14)) (a_cons moD (d_var (pv 15)) a_nil))))) ss_nil)))))
  (ss_cons (s_if (t_eq hu (w_var (pv 12)) (n_w (n_lst a_nil))) (ss_one (s_setN (i := 12) nd rfl (by first | exact Or.inl rfl | exact Or.inr rfl) (n_lst (a_cons moD (d_tup (a_cons moD (d_tup (a_cons moD d_int a_nil)) (a_cons moD (d_call (ok__law_share T) (hr.mono (by decide)) tk rfl (a_cons moD (d_at hu (w_var (pv 7)) d_int fun _ _ => rfl) (a_cons moD (d_var (pv 6)) (a_cons moD (d_var (pv 10)) (a_cons moD (d_var (pv 11)) a_nil))))) a_nil))) a_nil)))) ss_nil)
  (ss_one (s_fz 12 (s_app (i := 8) (pv 8) (d_tup (a_cons moD (d_var (pv 10)) (a_cons moD (d_var (pv 11)) (a_cons moD (d_tupOf rfl T.b_tuple (a_cons moD (d_var (pv 12)) a_nil)) a_nil)))))))))))))
  (ss_one (s_fz 8 (s_ret (d_tup (a_cons moD (d_var (pv 4)) (a_cons moD (d_var (pv 5)) (a_cons moD (d_tupOf rfl T.b_tuple (a_cons moD (d_var (pv 8)) a_nil)) a_nil))))))))))))))
theorem sc__law_asked : FnScope N__law_asked p__law_asked (defScope s__law_asked) := ⟨rfl, rfl, rfl, by decide +kernel, rfl, by decide +kernel, by decide +kernel⟩
theorem ok__law_asked (T : Txt K mg base cl) : Fn P w K mg base cl "_law_asked" 1 p__law_asked F__law_asked := by
  exact Dfn.mk T.d__law_asked sc__law_asked fun hr tk hp hu hu65 nd =>
    (ss_one (s_ret (d_add d_int (d_mod (d_at hu (w_var (pv 0)) (d_mod (d_var (pv 1)) d_int) fun _ _ => rfl) (d_at hu (n_w (n_lst (a_cons moD d_int (a_cons moD d_int (a_cons moD (d_var (pv 2)) a_nil))))) (d_mod (d_at hu (w_var (pv 0)) (d_mod (d_add (d_var (pv 1)) d_int) d_int) fun _ _ => rfl) d_int) fun _ _ => rfl)))))
theorem sc__law_lots : FnScope N__law_lots p__law_lots (defScope s__law_lots) := ⟨rfl, rfl, rfl, by decide +kernel, rfl, by decide +kernel, by decide +kernel⟩
theorem ok__law_lots (T : Txt K mg base cl) : Fn P w K mg base cl "_law_lots" 1 p__law_lots F__law_lots := by
  exact Dfn.mk T.d__law_lots sc__law_lots fun hr tk hp hu hu65 nd =>
    (ss_cons (s_setLc (i := 1) (own := [("_law_thing", 5)]) (by decide) rfl nd rfl rfl (sw_true rfl rfl rfl (by decide +kernel)) (i_range1 rfl T.b_range (a_cons moD (d_at hu (w_var (pv 0)) d_int fun _ _ => rfl) a_nil)) (blkOk_by (own := [("_law_thing", 5)]) (N := N__law_lots) (sc := defScope s__law_lots) (by decide +kernel)) (fun _ _ _ _ _ => (g_name (i := 5) nd rfl (by first | exact Or.inl rfl | exact Or.inr rfl))) (fun _ _ _ _ _ => ts_nil) (fun _ _ _ _ _ => (d_tup (a_cons moD (d_var (pv 5)) a_nil))))
  (ss_cons (s_if (t_eq hu (d_w (d_at hu (w_var (pv 0)) d_int fun _ _ => rfl)) (d_w d_str)) (ss_one (s_app (i := 1) (pv 1) (d_tupRg (p4 := ⟨0, 0, 0, 0⟩) rfl rfl T.b_tuple rfl T.b_range (d_at hu (w_var (pv 0)) d_int fun _ _ => rfl)))) ss_nil)
  (ss_cons (s_for [2, 3, 4] hp rfl (i_seq (d_at hu (w_var (pv 0)) d_int fun _ _ => rfl)) (g_tup rfl (gs_cons (g_name (i := 2) nd rfl (by first | exact Or.inl rfl | exact Or.inr rfl)) (gs_cons (g_name (i := 3) nd rfl (by first | exact Or.inl rfl | exact Or.inr rfl)) (gs_cons (g_name (i := 4) nd rfl (by first | exact Or.inl rfl | exact Or.inr rfl)) gs_nil))) (gs_lenS (gs_lenS (gs_lenS gs_len0))))
  (ss_one (s_setN (i := 1) nd rfl (by first | exact Or.inl rfl | exact Or.inr rfl) (n_cat (w_var (pv 1)) (n_w (n_lc (own := [("_law_lot", 7), ("_law_told", 8)]) (by decide) rfl nd (i_seq (d_var (pv 4))) (blkOk_by (own := [("_law_lot", 7), ("_law_told", 8)]) (N := N__law_lots) (sc := defScope s__law_lots) (by decide +kernel)) (fun _ _ _ _ _ => (g_tup rfl (gs_cons (g_name (i := 7) nd rfl (by first | exact Or.inl rfl | exact Or.inr rfl)) (gs_cons (g_name (i := 8) nd rfl (by first | exact Or.inl rfl | exact Or.inr rfl)) gs_nil)) (gs_lenS (gs_lenS gs_len0)))) (fun _ _ _ _ _ => ts_nil) (fun _ _ _ _ _ => (d_var (pv 7)))))))))
  (ss_one (s_fz 1 (s_ret (n_d (n_lc (own := [("_law_size", 6), ("_law_lot", 7)]) (by decide) rfl nd (i_seq (n_d (n_sortSet rfl hu rfl T.b_sorted rfl T.b_set (n_w (n_lc (own := [("_law_lot", 7)]) (by decide) rfl nd (i_seq (d_var (pv 1))) (blkOk_by (own := [("_law_lot", 7)]) (N := N__law_lots) (sc := defScope s__law_lots) (by decide +kernel)) (fun _ _ _ _ _ => (g_name (i := 7) nd rfl (by first | exact Or.inl rfl | exact Or.inr rfl))) (fun _ _ _ _ _ => ts_nil) (fun _ _ _ _ _ => (d_tup (a_cons moD (d_len rfl T.b_len (a_cons moW (w_var (pv 7)) a_nil)) (a_cons moD (d_var (pv 7)) a_nil))))))))) (blkOk_by (own := [("_law_size", 6), ("_law_lot", 7)]) (N := N__law_lots) (sc := defScope s__law_lots) (by decide +kernel)) (fun _ _ _ _ _ => (g_tup rfl (gs_cons (g_name (i := 6) nd rfl (by first | exact Or.inl rfl | exact Or.inr rfl)) (gs_cons (g_name (i := 7) nd rfl (by first | exact Or.inl rfl | exact Or.inr rfl)) gs_nil)) (gs_lenS (gs_lenS gs_len0)))) (fun _ _ _ _ _ => ts_nil) (fun _ _ _ _ _ => (d_var (pv 7)))))))))))
theorem sc__law_ends : FnScope N__law_ends p__law_ends (defScope s__law_ends) := ⟨rfl, rfl, rfl, by decide +kernel, rfl, by decide +kernel, by decide +kernel⟩
theorem ok__law_ends (T : Txt K mg base cl) : Fn P w K mg base cl "_law_ends" 1 p__law_ends F__law_ends := by
  exact Dfn.mk T.d__law_ends sc__law_ends fun hr tk hp hu hu65 nd =>
    (ss_cons (s_par (i := 3) (j := 4) rfl nd rfl rfl (by decide) rfl rfl (a_cons moD d_int (a_cons moD (d_var (pv 1)) a_nil)) rfl)
  (ss_cons (s_if (PW.pt (t_and (t_eq hu (d_w (d_at hu (w_var (pv 0)) d_int fun _ _ => rfl)) (d_w d_str)) (t_and1 (t_eq hu (d_w (d_len rfl T.b_len (a_cons moW (w_var (pv 2)) a_nil))) (d_w (d_at hu (w_var (pv 0)) d_int fun _ _ => rfl)))))) (ss_one (s_set (i := 3) nd rfl (by first | exact Or.inl rfl | exact Or.inr rfl) (d_var (pv 1)))) ss_nil)
  (ss_cons (s_for [5, 6, 7, 8, 9, 10, 11] hp rfl (i_seq (d_at hu (w_var (pv 0)) d_int fun _ _ => rfl)) (g_tup rfl (gs_cons (g_name (i := 5) nd rfl (by first | exact Or.inl rfl | exact Or.inr rfl)) (gs_cons (g_name (i := 6) nd rfl (by first | exact Or.inl rfl | exact Or.inr rfl)) (gs_cons (g_name (i := 7) nd rfl (by first | exact Or.inl rfl | exact Or.inr rfl)) gs_nil))) (gs_lenS (gs_lenS (gs_lenS gs_len0))))
  (ss_one (s_for [8, 9, 10, 11] hp rfl (i_seq (d_var (pv 7))) (g_tup rfl (gs_cons (g_name (i := 8) nd rfl (by first | exact Or.inl rfl | exact Or.inr rfl)) (gs_cons (g_name (i := 9) nd rfl (by first | exact Or.inl rfl | exact Or.inr rfl)) gs_nil)) (gs_lenS (gs_lenS gs_len0)))
  (ss_one (s_if (t_eq hu (w_var (pv 8)) (w_var (pv 2))) (ss_cons (s_if (t_eq hu (w_var (pv 6)) (d_w d_str)) (ss_cons (s_set (i := 10) nd rfl (by first | exact Or.inl rfl | exact Or.inr rfl) (d_neg (d_fdiv (d_mul (d_neg (d_var (pv 9))) (d_var (pv 1))) (d_var (pv 5)))))
  (ss_one (s_set (i := 11) nd rfl (by first | exact Or.inl rfl | exact Or.inr rfl) (d_sub (d_neg (d_fdiv (d_mul (d_neg (d_add (d_var (pv 9)) d_int)) (d_var (pv 1))) (d_var (pv 5)))) d_int)))) (ss_one (s_if (t_eq hu (w_var (pv 6)) (d_w d_str)) (ss_cons (s_set (i := 10) nd rfl (by first | exact Or.inl rfl | exact Or.inr rfl) (d_add (d_fdiv (d_mul (d_sub (d_var (pv 9)) d_int) (d_var (pv 1))) (d_var (pv 5))) d_int))
  (ss_one (s_set (i := 11) nd rfl (by first | exact Or.inl rfl | exact Or.inr rfl) (d_fdiv (d_mul (d_var (pv 9)) (d_var (pv 1))) (d_var (pv 5)))))) (ss_cons (s_set (i := 10) nd rfl (by first | exact Or.inl rfl | exact Or.inr rfl) (d_neg (d_fdiv (d_mul (d_neg (d_sub (d_mul d_int (d_var (pv 9))) d_int)) (d_var (pv 1))) (d_mul d_int (d_var (pv 5))))))
  (ss_one (s_set (i := 11) nd rfl (by first | exact Or.inl rfl | exact Or.inr rfl) (d_sub (d_neg (d_fdiv (d_mul (d_neg (d_add (d_mul d_int (d_var (pv 9))) d_int)) (d_var (pv 1))) (d_mul d_int (d_var (pv 5))))) d_int)))))))
  (ss_one (s_par (i := 3) (j := 4) rfl nd rfl rfl (by decide) rfl rfl (a_cons moD (d_max2 rfl rfl T.b_max (a_cons moD (d_var (pv 3)) (a_cons moD (d_var (pv 10)) a_nil))) (a_cons moD (d_min2 rfl rfl T.b_min (a_cons moD (d_var (pv 4)) (a_cons moD (d_var (pv 11)) a_nil))) a_nil)) rfl))) ss_nil)))))
  (ss_one (s_ret (d_tup (a_cons moD (d_var (pv 3)) (a_cons moD (d_var (pv 4)) a_nil))))))))
theorem sc__law_ends_word : FnScope N__law_ends_word p__law_ends_word (defScope s__law_ends_word) := ⟨rfl, rfl, rfl, by decide +kernel, rfl, by decide +kernel, by decide +kernel⟩
theorem ok__law_ends_word (T : Txt K mg base cl) : Fn P w K mg base cl "_law_ends_word" 8 p__law_ends_word F__law_ends_word := by
  have xt := T.xt
  exact Dfn.mk T.d__law_ends_word sc__law_ends_word fun hr tk hp hu hu65 nd =>
    (ss_cons (s_tryR xt rfl rfl nd tk (fun W pn xe tk hp => (ss_one (s_expr (d_call (ok_ends T) (hr.mono (by decide)) tk rfl (a_cons moD (d_var (pv 0)) (a_cons moD (d_var (pv 1)) (a_cons moD (d_var (pv 2)) a_nil))))))) (hd_two (i := 3) xt (by decide) (by decide) T.g_BadLot T.g_ShareError T.g_BadPoll T.b_isinstance (hd_two (i := 3) xt (by decide) (by decide) T.g_BadNumber T.g_ShareError T.g_BadPoll T.b_isinstance .nil rfl rfl) rfl rfl))
  (ss_one (s_ret d_str)))
theorem sc_law : FnScope N_law p_law (defScope s_law) := ⟨rfl, rfl, rfl, by decide +kernel, rfl, by decide +kernel, by decide +kernel⟩
theorem ok_law (T : Txt K mg base cl) : Fn P w K mg base cl "law" 9 p_law F_law := by
  exact Dfn.mk T.d_law sc_law fun hr tk hp hu hu65 nd =>
    (ss_cons (s_set (i := 1) nd rfl (by first | exact Or.inl rfl | exact Or.inr rfl) (d_call (ok__law_row T) (hr.mono (by decide)) tk rfl (a_cons moD (d_var (pv 0)) (a_cons moD d_int a_nil))))
  (ss_cons (s_set (i := 2) nd rfl (by first | exact Or.inl rfl | exact Or.inr rfl) (d_call (ok__law_poll T) (hr.mono (by decide)) tk rfl (a_cons moD (d_var (pv 0)) (a_cons moD d_int (a_cons moD d_int a_nil)))))
  (ss_cons (s_set (i := 3) nd rfl (by first | exact Or.inl rfl | exact Or.inr rfl) (d_call (ok__law_asked T) (hr.mono (by decide)) tk rfl (a_cons moD (d_var (pv 1)) (a_cons moD d_int (a_cons moD d_int a_nil)))))
  (ss_cons (s_for [4, 5, 6, 7, 8, 9, 10, 11, 12, 13, 14] hp rfl (i_seq (d_call (ok__law_lots T) (hr.mono (by decide)) tk rfl (a_cons moD (d_var (pv 2)) a_nil))) (g_name (i := 4) nd rfl (by first | exact Or.inl rfl | exact Or.inr rfl))
  (ss_cons (s_asg (d_call (ok_ends T) (hr.mono (by decide)) tk rfl (a_cons moD (d_var (pv 2)) (a_cons moD (d_var (pv 3)) (a_cons moD (d_var (pv 4)) a_nil)))) (g_tup rfl (gs_cons (g_name (i := 5) nd rfl (by first | exact Or.inl rfl | exact Or.inr rfl)) (gs_cons (g_name (i := 6) nd rfl (by first | exact Or.inl rfl | exact Or.inr rfl)) gs_nil)) (gs_lenS (gs_lenS gs_len0))))
  (ss_cons (s_if (t_ne hu (d_w (d_tup (a_cons moD (d_var (pv 5)) (a_cons moD (d_var (pv 6)) a_nil)))) (d_w (d_call (ok__law_ends T) (hr.mono (by decide)) tk rfl (a_cons moD (d_var (pv 2)) (a_cons moD (d_var (pv 3)) (a_cons moD (d_var (pv 4)) a_nil)))))) (ss_one (s_ret d_bl)) ss_nil)
  (ss_one (s_for [7, 8, 9, 10, 11, 12, 13, 14] hp rfl (i_range1 rfl T.b_range (a_cons moD d_int a_nil)) (g_name (i := 7) nd rfl (by first | exact Or.inl rfl | exact Or.inr rfl))
  (ss_cons (s_set (i := 8) nd rfl (by first | exact Or.inl rfl | exact Or.inr rfl) (d_at hu (n_w (n_lst (a_cons moD (d_mod (d_at hu (w_var (pv 1)) (d_add d_int (d_var (pv 7))) fun _ _ => rfl) (d_add (d_var (pv 3)) d_int)) (a_cons moD (d_var (pv 5)) (a_cons moD (d_var (pv 6)) (a_cons moD (d_sub (d_var (pv 5)) d_int) a_nil)))))) (d_var (pv 7)) fun _ _ => rfl))
  (ss_one (s_if (t_chain op_le op_le d_int (d_var (pv 8)) (d_var (pv 3))) (ss_cons (s_set (i := 9) nd rfl (by first | exact Or.inl rfl | exact Or.inr rfl) (d_or (d_eq hu (d_w (d_at hu (w_var (pv 2)) d_int fun _ _ => rfl)) (d_w d_str)) (d_or (d_lt (d_len rfl T.b_len (a_cons moW (w_var (pv 4)) a_nil)) (d_at hu (w_var (pv 2)) d_int fun _ _ => rfl)) (d_one (d_eq hu (w_var (pv 8)) (w_var (pv 3)))))))
  (ss_cons (s_for [10, 11, 12, 13, 14] hp rfl (i_seq (d_at hu (w_var (pv 2)) d_int fun _ _ => rfl)) (g_tup rfl (gs_cons (g_name (i := 10) nd rfl (by first | exact Or.inl rfl | exact Or.inr rfl)) (gs_cons (g_name (i := 11) nd rfl (by first | exact Or.inl rfl | exact Or.inr rfl)) (gs_cons (g_name (i := 12) nd rfl (by first | exact Or.inl rfl | exact Or.inr rfl)) gs_nil))) (gs_lenS (gs_lenS (gs_lenS gs_len0))))
  (ss_one (s_for [13, 14] hp rfl (i_seq (d_var (pv 12))) (g_tup rfl (gs_cons (g_name (i := 13) nd rfl (by first | exact Or.inl rfl | exact Or.inr rfl)) (gs_cons (g_name (i := 14) nd rfl (by first | exact Or.inl rfl | exact Or.inr rfl)) gs_nil)) (gs_lenS (gs_lenS gs_len0)))
  (ss_one (s_if (PW.pt (t_and (t_eq hu (w_var (pv 13)) (w_var (pv 4))) (t_and1 (t_ne hu (d_w (d_call (ok__law_share T) (hr.mono (by decide)) tk rfl (a_cons moD (d_var (pv 8)) (a_cons moD (d_var (pv 3)) (a_cons moD (d_var (pv 10)) (a_cons moD (d_var (pv 11)) a_nil)))))) (w_var (pv 14)))))) (ss_one (s_set (i := 9) nd rfl (by first | exact Or.inl rfl | exact Or.inr rfl) d_bl)) ss_nil)))))
  (ss_one (s_if (t_ne hu (d_w (d_chain op_le op_le (d_var (pv 5)) (d_var (pv 8)) (d_var (pv 6)))) (w_var (pv 9))) (ss_one (s_ret d_bl)) ss_nil)))) ss_nil))))))))
  (ss_cons (s_set (i := 15) nd rfl (by first | exact Or.inl rfl | exact Or.inr rfl) (d_at hu (n_w (n_lst (a_cons moD d_non (a_cons moD (d_tup a_nil) (a_cons moD (d_tup (a_cons moD (d_at hu (w_var (pv 2)) d_int fun _ _ => rfl) a_nil)) (a_cons moD (n_d (n_lst (a_cons moD d_int a_nil))) (a_cons moD (d_tup (a_cons moD d_bl a_nil)) (a_cons moD (d_tup (a_cons moD d_int (a_cons moD d_int a_nil))) a_nil)))))))) (d_mod (d_at hu (w_var (pv 1)) d_int fun _ _ => rfl) d_int) fun _ _ => rfl))
  (ss_cons (s_if (t_ne hu (d_w (d_call (ok__law_ends_word T) (hr.mono (by decide)) tk rfl (a_cons moD (d_var (pv 2)) (a_cons moD (d_var (pv 3)) (a_cons moD (d_var (pv 15)) a_nil))))) (d_w d_str)) (ss_one (s_ret d_bl)) ss_nil)
  (ss_one (s_ret (d_eq hu (d_w (d_call (ok__law_ends_word T) (hr.mono (by decide)) tk rfl (a_cons moD (d_var (pv 2)) (a_cons moD (d_at hu (n_w (n_lst (a_cons moD d_non (a_cons moD d_int (a_cons moD d_int (a_cons moD d_bl a_nil)))))) (d_mod (d_at hu (w_var (pv 1)) d_int fun _ _ => rfl) d_int) fun _ _ => rfl) (a_cons moD (d_tup (a_cons moD d_int a_nil)) a_nil))))) (d_w d_str))))))))))
end
/-! the head -/
def fnL : List He.DefD := [⟨("is_within", none), "is_within", "is_within", defArgs s_is_within, defBody s_is_within, defScope s_is_within, [], []⟩, ⟨("rises", none), "rises", "rises", defArgs s_rises, defBody s_rises, defScope s_rises, [], []⟩, ⟨("is_lot", none), "is_lot", "is_lot", defArgs s_is_lot, defBody s_is_lot, defScope s_is_lot, [], []⟩, ⟨("is_part", none), "is_part", "is_part", defArgs s_is_part, defBody s_is_part, defScope s_is_part, [], []⟩, ⟨("is_showing_of", none), "is_showing_of", "is_showing_of", defArgs s_is_showing_of, defBody s_is_showing_of, defScope s_is_showing_of, [], []⟩, ⟨("common", none), "common", "common", defArgs s_common, defBody s_common, defScope s_common, [], []⟩, ⟨("turn_of", none), "turn_of", "turn_of", defArgs s_turn_of, defBody s_turn_of, defScope s_turn_of, [], []⟩, ⟨("all_lots", none), "all_lots", "all_lots", defArgs s_all_lots, defBody s_all_lots, defScope s_all_lots, [], []⟩, ⟨("do_nest", none), "do_nest", "do_nest", defArgs s_do_nest, defBody s_do_nest, defScope s_do_nest, [], []⟩, ⟨("is_poll", none), "is_poll", "is_poll", defArgs s_is_poll, defBody s_is_poll, defScope s_is_poll, [], []⟩, ⟨("look", none), "look", "look", defArgs s_look, defBody s_look, defScope s_look, [], []⟩, ⟨("look_number", none), "look_number", "look_number", defArgs s_look_number, defBody s_look_number, defScope s_look_number, [], []⟩, ⟨("up_over", none), "up_over", "up_over", defArgs s_up_over, defBody s_up_over, defScope s_up_over, [], []⟩, ⟨("stretch", none), "stretch", "stretch", defArgs s_stretch, defBody s_stretch, defScope s_stretch, [], []⟩, ⟨("ends_of", none), "ends_of", "ends_of", defArgs s_ends_of, defBody s_ends_of, defScope s_ends_of, [], []⟩, ⟨("ends", none), "ends", "ends", defArgs s_ends, defBody s_ends, defScope s_ends, [], []⟩, ⟨("_law_cell", none), "_law_cell", "_law_cell", defArgs s__law_cell, defBody s__law_cell, defScope s__law_cell, [], []⟩, ⟨("_law_row", none), "_law_row", "_law_row", defArgs s__law_row, defBody s__law_row, defScope s__law_row, [], []⟩, ⟨("_law_share", none), "_law_share", "_law_share", defArgs s__law_share, defBody s__law_share, defScope s__law_share, [], []⟩, ⟨("_law_spread", none), "_law_spread", "_law_spread", defArgs s__law_spread, defBody s__law_spread, defScope s__law_spread, [], []⟩, ⟨("_law_nest", none), "_law_nest", "_law_nest", defArgs s__law_nest, defBody s__law_nest, defScope s__law_nest, [], []⟩, ⟨("_law_poll", none), "_law_poll", "_law_poll", defArgs s__law_poll, defBody s__law_poll, defScope s__law_poll, [], []⟩, ⟨("_law_asked", none), "_law_asked", "_law_asked", defArgs s__law_asked, defBody s__law_asked, defScope s__law_asked, [], []⟩, ⟨("_law_lots", none), "_law_lots", "_law_lots", defArgs s__law_lots, defBody s__law_lots, defScope s__law_lots, [], []⟩, ⟨("_law_ends", none), "_law_ends", "_law_ends", defArgs s__law_ends, defBody s__law_ends, defScope s__law_ends, [], []⟩, ⟨("_law_ends_word", none), "_law_ends_word", "_law_ends_word", defArgs s__law_ends_word, defBody s__law_ends_word, defScope s__law_ends_word, [], []⟩, ⟨("law", none), "law", "law", defArgs s_law, defBody s_law, defScope s_law, [], []⟩]
def faL : List He.Fa := [.glo "is_within", .glo "rises", .glo "is_lot", .glo "is_part", .glo "is_showing_of", .glo "common", .glo "turn_of", .glo "all_lots", .glo "do_nest", .glo "is_poll", .glo "look", .glo "look_number", .glo "up_over", .glo "stretch", .glo "ends_of", .glo "ends", .glo "_law_cell", .glo "_law_row", .glo "_law_share", .glo "_law_spread", .glo "_law_nest", .glo "_law_poll", .glo "_law_asked", .glo "_law_lots", .glo "_law_ends", .glo "_law_ends_word", .glo "law", .glo "BadLot", .glo "BadNumber", .glo "BadPoll", .glo "ShareError", .exc "BadLot", .exc "BadNumber", .exc "BadPoll", .free "bool", .free "enumerate", .free "int", .free "isinstance", .free "len", .free "max", .free "min", .free "range", .free "set", .free "sorted", .free "str", .free "sum", .free "tuple", .free "zip", .glo "KINDS", .int "MOST_ASKED" 100000, .int "MOST_SHOWINGS" 3, .int "MOST_THINGS" 6, .int "MOST_TURN" 1000, .int "MOST_UNITS" 100, .glo "WORDS"]
def exL (K : Fg) : Bool := He.tupB K "KINDS" [He.Dv.str "one", He.Dv.str "some"] && He.tupB K "WORDS" [He.Dv.str "cut", He.Dv.str "near", He.Dv.str "up"] && tabB tabN tabC K && true
abbrev R : PySem.W.OpenRow := PySem.W.OpenLaw.row PySem.Challenge.rw_shownshares_k03_ends_of_lots
abbrev hk : PySem.W.Hook := hookT 4 faL fnL exL ["all_lots"]
def ob (s : PySem.W.SharedT) : AlT := obsT 4 faL fnL exL ["all_lots"] (HandSHeadRun.getT s)
theorem ob_eq (s : PySem.W.SharedT) : ob s = hk.obs s.abs := obsT_eq (HandSHeadRun.getT_eq s)
def loose0 : List PySem.Str := ["ShareError", "BadPoll", "BadNumber", "BadLot", "MOST_THINGS", "MOST_UNITS", "MOST_SHOWINGS", "MOST_TURN", "WORDS", "KINDS", "is_within", "rises", "is_lot", "is_part", "is_showing_of", "turn_of", "common", "all_lots", "do_nest", "is_poll", "look", "MOST_ASKED", "look_number", "up_over", "stretch", "ends_of", "ends", "_law_cell", "_law_row", "_law_share"]
def loose1 : List PySem.Str := ["_law_spread", "_law_nest", "_law_poll", "_law_asked", "_law_lots", "_law_ends", "_law_ends_word"]
def loose : List PySem.Str := loose0 ++ loose1
theorem run (w : World) : HandSHeadRun.RunEq R (PySem.W.view R.prog [41]) hk ob 4000 loose w := by
  intro os
  kernel_rfl
theorem facts0 {K : Fg} {h : Heap} {mg : Str → Option Value} (X : K.In h) (G : h.Ns mainGlobals mg) (c : SaysE faL fnL exL K) : Txt0 K mg := by
  have c1 := c.d
  have ce := c.own
  unfold exL at ce
  simp only [Bool.and_true, Bool.and_eq_true] at ce
  exact {
    b_bool := He.free_ok X G (c1.fact 34 (f := .free "bool") rfl),
    b_enumerate := He.free_ok X G (c1.fact 35 (f := .free "enumerate") rfl),
    b_int := He.free_ok X G (c1.fact 36 (f := .free "int") rfl),
    b_isinstance := He.free_ok X G (c1.fact 37 (f := .free "isinstance") rfl),
    b_len := He.free_ok X G (c1.fact 38 (f := .free "len") rfl),
    b_max := He.free_ok X G (c1.fact 39 (f := .free "max") rfl),
    b_min := He.free_ok X G (c1.fact 40 (f := .free "min") rfl),
    b_range := He.free_ok X G (c1.fact 41 (f := .free "range") rfl),
    b_set := He.free_ok X G (c1.fact 42 (f := .free "set") rfl),
    b_sorted := He.free_ok X G (c1.fact 43 (f := .free "sorted") rfl),
    b_str := He.free_ok X G (c1.fact 44 (f := .free "str") rfl),
    b_sum := He.free_ok X G (c1.fact 45 (f := .free "sum") rfl),
    b_tuple := He.free_ok X G (c1.fact 46 (f := .free "tuple") rfl),
    b_zip := He.free_ok X G (c1.fact 47 (f := .free "zip") rfl),
    c_KINDS := ⟨_, He.glo_ok X G (c1.fact 48 (f := .glo "KINDS") rfl), fun E => He.tupB_ok (ce.1.1) E⟩,
    c_MOST_ASKED := He.int_ok X G (c1.fact 49 (f := .int "MOST_ASKED" 100000) rfl),
    c_MOST_SHOWINGS := He.int_ok X G (c1.fact 50 (f := .int "MOST_SHOWINGS" 3) rfl),
    c_MOST_THINGS := He.int_ok X G (c1.fact 51 (f := .int "MOST_THINGS" 6) rfl),
    c_MOST_TURN := He.int_ok X G (c1.fact 52 (f := .int "MOST_TURN" 1000) rfl),
    c_MOST_UNITS := He.int_ok X G (c1.fact 53 (f := .int "MOST_UNITS" 100) rfl),
    c_WORDS := ⟨_, He.glo_ok X G (c1.fact 54 (f := .glo "WORDS") rfl), fun E => He.tupB_ok (ce.1.2) E⟩,
    d_is_within := by
      obtain ⟨_, F⟩ := c1.def_ 0 (d := fnL[0]) rfl
      exact Dfn.of (n := "is_within") (st := s_is_within) (ps := p_is_within) X G (q := "is_within") rfl F (c1.fact 0 (f := .glo "is_within") rfl) (fun _ _ _ _ _ _ us hl => match us, hl with | [_, _, _], _ => rfl),
    d_rises := by
      obtain ⟨_, F⟩ := c1.def_ 1 (d := fnL[1]) rfl
      exact Dfn.of (n := "rises") (st := s_rises) (ps := p_rises) X G (q := "rises") rfl F (c1.fact 1 (f := .glo "rises") rfl) (fun _ _ _ _ _ _ us hl => match us, hl with | [_], _ => rfl),
    d_is_lot := by
      obtain ⟨_, F⟩ := c1.def_ 2 (d := fnL[2]) rfl
      exact Dfn.of (n := "is_lot") (st := s_is_lot) (ps := p_is_lot) X G (q := "is_lot") rfl F (c1.fact 2 (f := .glo "is_lot") rfl) (fun _ _ _ _ _ _ us hl => match us, hl with | [_, _], _ => rfl),
    d_is_part := by
      obtain ⟨_, F⟩ := c1.def_ 3 (d := fnL[3]) rfl
      exact Dfn.of (n := "is_part") (st := s_is_part) (ps := p_is_part) X G (q := "is_part") rfl F (c1.fact 3 (f := .glo "is_part") rfl) (fun _ _ _ _ _ _ us hl => match us, hl with | [_, _, _], _ => rfl),
    d_is_showing_of := by
      obtain ⟨_, F⟩ := c1.def_ 4 (d := fnL[4]) rfl
      exact Dfn.of (n := "is_showing_of") (st := s_is_showing_of) (ps := p_is_showing_of) X G (q := "is_showing_of") rfl F (c1.fact 4 (f := .glo "is_showing_of") rfl) (fun _ _ _ _ _ _ us hl => match us, hl with | [_, _], _ => rfl),
    d_common := by
      obtain ⟨_, F⟩ := c1.def_ 5 (d := fnL[5]) rfl
      exact Dfn.of (n := "common") (st := s_common) (ps := p_common) X G (q := "common") rfl F (c1.fact 5 (f := .glo "common") rfl) (fun _ _ _ _ _ _ us hl => match us, hl with | [_, _], _ => rfl),
    d_turn_of := by
      obtain ⟨_, F⟩ := c1.def_ 6 (d := fnL[6]) rfl
      exact Dfn.of (n := "turn_of") (st := s_turn_of) (ps := p_turn_of) X G (q := "turn_of") rfl F (c1.fact 6 (f := .glo "turn_of") rfl) (fun _ _ _ _ _ _ us hl => match us, hl with | [_], _ => rfl),
    d_all_lots := by
      obtain ⟨_, F⟩ := c1.def_ 7 (d := fnL[7]) rfl
      exact Dfn.of (n := "all_lots") (st := s_all_lots) (ps := p_all_lots) X G (q := "all_lots") rfl F (c1.fact 7 (f := .glo "all_lots") rfl) (fun _ _ _ _ _ _ us hl => match us, hl with | [_], _ => rfl),
    d_do_nest := by
      obtain ⟨_, F⟩ := c1.def_ 8 (d := fnL[8]) rfl
      exact Dfn.of (n := "do_nest") (st := s_do_nest) (ps := p_do_nest) X G (q := "do_nest") rfl F (c1.fact 8 (f := .glo "do_nest") rfl) (fun _ _ _ _ _ _ us hl => match us, hl with | [_], _ => rfl),
    d_is_poll := by
      obtain ⟨_, F⟩ := c1.def_ 9 (d := fnL[9]) rfl
      exact Dfn.of (n := "is_poll") (st := s_is_poll) (ps := p_is_poll) X G (q := "is_poll") rfl F (c1.fact 9 (f := .glo "is_poll") rfl) (fun _ _ _ _ _ _ us hl => match us, hl with | [_], _ => rfl),
    d_look := by
      obtain ⟨_, F⟩ := c1.def_ 10 (d := fnL[10]) rfl
      exact Dfn.of (n := "look") (st := s_look) (ps := p_look) X G (q := "look") rfl F (c1.fact 10 (f := .glo "look") rfl) (fun _ _ _ _ _ _ us hl => match us, hl with | [_], _ => rfl),
    d_look_number := by
      obtain ⟨_, F⟩ := c1.def_ 11 (d := fnL[11]) rfl
      exact Dfn.of (n := "look_number") (st := s_look_number) (ps := p_look_number) X G (q := "look_number") rfl F (c1.fact 11 (f := .glo "look_number") rfl) (fun _ _ _ _ _ _ us hl => match us, hl with | [_], _ => rfl),
    d_up_over := by
      obtain ⟨_, F⟩ := c1.def_ 12 (d := fnL[12]) rfl
      exact Dfn.of (n := "up_over") (st := s_up_over) (ps := p_up_over) X G (q := "up_over") rfl F (c1.fact 12 (f := .glo "up_over") rfl) (fun _ _ _ _ _ _ us hl => match us, hl with | [_, _], _ => rfl),
    d_stretch := by
      obtain ⟨_, F⟩ := c1.def_ 13 (d := fnL[13]) rfl
      exact Dfn.of (n := "stretch") (st := s_stretch) (ps := p_stretch) X G (q := "stretch") rfl F (c1.fact 13 (f := .glo "stretch") rfl) (fun _ _ _ _ _ _ us hl => match us, hl with | [_, _, _, _], _ => rfl),
    d_ends_of := by
      obtain ⟨_, F⟩ := c1.def_ 14 (d := fnL[14]) rfl
      exact Dfn.of (n := "ends_of") (st := s_ends_of) (ps := p_ends_of) X G (q := "ends_of") rfl F (c1.fact 14 (f := .glo "ends_of") rfl) (fun _ _ _ _ _ _ us hl => match us, hl with | [_, _], _ => rfl),
    d_ends := by
      obtain ⟨_, F⟩ := c1.def_ 15 (d := fnL[15]) rfl
      exact Dfn.of (n := "ends") (st := s_ends) (ps := p_ends) X G (q := "ends") rfl F (c1.fact 15 (f := .glo "ends") rfl) (fun _ _ _ _ _ _ us hl => match us, hl with | [_, _, _], _ => rfl),
    d__law_cell := by
      obtain ⟨_, F⟩ := c1.def_ 16 (d := fnL[16]) rfl
      exact Dfn.of (n := "_law_cell") (st := s__law_cell) (ps := p__law_cell) X G (q := "_law_cell") rfl F (c1.fact 16 (f := .glo "_law_cell") rfl) (fun _ _ _ _ _ _ us hl => match us, hl with | [_, _], _ => rfl),
    d__law_row := by
      obtain ⟨_, F⟩ := c1.def_ 17 (d := fnL[17]) rfl
      exact Dfn.of (n := "_law_row") (st := s__law_row) (ps := p__law_row) X G (q := "_law_row") rfl F (c1.fact 17 (f := .glo "_law_row") rfl) (fun _ _ _ _ _ _ us hl => match us, hl with | [_, _], _ => rfl),
    d__law_share := by
      obtain ⟨_, F⟩ := c1.def_ 18 (d := fnL[18]) rfl
      exact Dfn.of (n := "_law_share") (st := s__law_share) (ps := p__law_share) X G (q := "_law_share") rfl F (c1.fact 18 (f := .glo "_law_share") rfl) (fun _ _ _ _ _ _ us hl => match us, hl with | [_, _, _, _], _ => rfl),
    d__law_spread := by
      obtain ⟨_, F⟩ := c1.def_ 19 (d := fnL[19]) rfl
      exact Dfn.of (n := "_law_spread") (st := s__law_spread) (ps := p__law_spread) X G (q := "_law_spread") rfl F (c1.fact 19 (f := .glo "_law_spread") rfl) (fun _ _ _ _ _ _ us hl => match us, hl with | [_, _, _, _, _], _ => rfl),
    d__law_nest := by
      obtain ⟨_, F⟩ := c1.def_ 20 (d := fnL[20]) rfl
      exact Dfn.of (n := "_law_nest") (st := s__law_nest) (ps := p__law_nest) X G (q := "_law_nest") rfl F (c1.fact 20 (f := .glo "_law_nest") rfl) (fun _ _ _ _ _ _ us hl => match us, hl with | [_, _, _, _], _ => rfl),
    d__law_poll := by
      obtain ⟨_, F⟩ := c1.def_ 21 (d := fnL[21]) rfl
      exact Dfn.of (n := "_law_poll") (st := s__law_poll) (ps := p__law_poll) X G (q := "_law_poll") rfl F (c1.fact 21 (f := .glo "_law_poll") rfl) (fun _ _ _ _ _ _ us hl => match us, hl with | [_, _, _], _ => rfl),
    d__law_asked := by
      obtain ⟨_, F⟩ := c1.def_ 22 (d := fnL[22]) rfl
      exact Dfn.of (n := "_law_asked") (st := s__law_asked) (ps := p__law_asked) X G (q := "_law_asked") rfl F (c1.fact 22 (f := .glo "_law_asked") rfl) (fun _ _ _ _ _ _ us hl => match us, hl with | [_, _, _], _ => rfl),
    d__law_lots := by
      obtain ⟨_, F⟩ := c1.def_ 23 (d := fnL[23]) rfl
      exact Dfn.of (n := "_law_lots") (st := s__law_lots) (ps := p__law_lots) X G (q := "_law_lots") rfl F (c1.fact 23 (f := .glo "_law_lots") rfl) (fun _ _ _ _ _ _ us hl => match us, hl with | [_], _ => rfl),
    d__law_ends := by
      obtain ⟨_, F⟩ := c1.def_ 24 (d := fnL[24]) rfl
      exact Dfn.of (n := "_law_ends") (st := s__law_ends) (ps := p__law_ends) X G (q := "_law_ends") rfl F (c1.fact 24 (f := .glo "_law_ends") rfl) (fun _ _ _ _ _ _ us hl => match us, hl with | [_, _, _], _ => rfl),
    d__law_ends_word := by
      obtain ⟨_, F⟩ := c1.def_ 25 (d := fnL[25]) rfl
      exact Dfn.of (n := "_law_ends_word") (st := s__law_ends_word) (ps := p__law_ends_word) X G (q := "_law_ends_word") rfl F (c1.fact 25 (f := .glo "_law_ends_word") rfl) (fun _ _ _ _ _ _ us hl => match us, hl with | [_, _, _], _ => rfl),
    d_law := by
      obtain ⟨_, F⟩ := c1.def_ 26 (d := fnL[26]) rfl
      exact Dfn.of (n := "law") (st := s_law) (ps := p_law) X G (q := "law") rfl F (c1.fact 26 (f := .glo "law") rfl) (fun _ _ _ _ _ _ us hl => match us, hl with | [_], _ => rfl) }
theorem facts {K : Fg} {h base : Heap} {mg : Str → Option Value} {k P : Addr} (X : K.In h) (G : h.Ns mainGlobals mg) (c : SaysE faL fnL exL K) (t : cTab K (He.ga K "all_lots") = some (k, P)) (TB : LamX.TabB base mg k P) : Txt K mg base (clT P K) := by
  have T0 := facts0 X G c
  have c1 := c.d
  have ce := c.own
  unfold exL at ce
  simp only [Bool.and_true, Bool.and_eq_true] at ce
  exact {
    toTxt0 := T0,
    l_all_lots := DfnL.of T0.d_all_lots (He.glo_ok X G (c1.fact 7 (f := .glo "all_lots") rfl)) t TB,
    x_BadLot := by rw [clT_ne (by decide)]; exact XCls.of X G (c1.fact 27 (f := .glo "BadLot") rfl) (c1.fact 31 (f := .exc "BadLot") rfl),
    x_BadNumber := by rw [clT_ne (by decide)]; exact XCls.of X G (c1.fact 28 (f := .glo "BadNumber") rfl) (c1.fact 32 (f := .exc "BadNumber") rfl),
    x_BadPoll := by rw [clT_ne (by decide)]; exact XCls.of X G (c1.fact 29 (f := .glo "BadPoll") rfl) (c1.fact 33 (f := .exc "BadPoll") rfl),
    g_BadLot := by rw [clT_ne (by decide)]; exact He.glo_ok X G (c1.fact 27 (f := .glo "BadLot") rfl),
    g_BadNumber := by rw [clT_ne (by decide)]; exact He.glo_ok X G (c1.fact 28 (f := .glo "BadNumber") rfl),
    g_BadPoll := by rw [clT_ne (by decide)]; exact He.glo_ok X G (c1.fact 29 (f := .glo "BadPoll") rfl),
    g_ShareError := by rw [clT_ne (by decide)]; exact He.glo_ok X G (c1.fact 30 (f := .glo "ShareError") rfl),
    xt := (tabB_ok (ce.2)).conv (by decide) (by decide) }
end K03
namespace K03
open PySem L2 Dl Sh
theorem lot_no (n : Int) (l : Lot) (h : lotB n l = false) (hl : l.length ≤ 1000000) : F_is_lot [.int n, lotD l] = .ok (.bl false) := by rw [E_lot n l hl, h]
theorem odd_no (n k : Int) (hn : 1 ≤ n) (hn2 : n ≤ 6) (h0 : 0 ≤ k) (h1 : k < 6) : ∃ d, Dl.oAt (.lst [.non, .tup [], .tup [.int n], .lst [.int 0], .tup [.bl true], .tup [.int 0, .int 0]]) (.int k) = some d ∧ F_is_lot [.int n, d] = .ok (.bl false) := by
  have c : k = 0 ∨ k = 1 ∨ k = 2 ∨ k = 3 ∨ k = 4 ∨ k = 5 := by omega
  rcases c with rfl | rfl | rfl | rfl | rfl | rfl
  · exact ⟨_, rfl, by simp [F_is_lot, g_is_lot, oIsi]⟩
  · exact ⟨_, rfl, lot_no n [] rfl (by decide)⟩
  · refine ⟨_, rfl, lot_no n [n] ?_ (by simp)⟩
    have : lotB n [n] ≠ true := fun h => by have := (lotB_iff.mp h).lo n (by simp); omega
    simpa using this
  · exact ⟨_, rfl, by simp [F_is_lot, g_is_lot, oIsi]⟩
  · refine ⟨_, rfl, ?_⟩
    have e := E_isW (.bl true) 0 (n - 1) rfl
    simp only [isW_bl] at e
    have k : goLc (gN 2) (cNot (cTru (cCall F_is_within (aCons (cV 2) (aCons (cK (.int 0)) (aCons (c2 oSub (cV 0) (cK (.int 1))) aNil)))))) (cV 2) [.bl true] [.va (.int n), .va (.tup [.bl true]), .no] = .ok [.bl true] := by
      refine goLc_map (fun _ : Unit => Dt.bl true) (fun _ => Dt.bl true) (fun _ => true) [()] fun _ _ => ⟨_, rfl, ?_, fun _ => rfl⟩
      simp only [e, runF, List.length_cons, List.length_nil, if_true, if_false, List.map_cons, List.map_nil, List.cons_append, List.nil_append, List.replicate, sSeq, sIf, sRet, sNil, sSet, sSetN, sPar, sAsg, sFz, fz, sFor, sExpr, sRaise, sWh, rob, cOr, cAnd, cNot, cT, cTru, cB, cIf, c1, c2, cV, cVw, cK, cAndV, cOrV, cNotV, cChain, aCons, aNil, cCall, cB1, cTup, cLst, cLc, cSeqA, cRng1, cRng2, cEnum, enumO, cZip, zipO, cCut, pSome, pNo, oCut, gT, gsCons, gsNil, gN, Rs.bind, Option.bind, Option.map, ofO, cond, truD, fgt, List.foldl, List.set, lim, List.getElem?_cons_zero, List.getElem?_cons_succ, Nat.zero_add, Nat.reduceSub, Nat.reduceAdd, Nat.reduceLeDiff, Nat.reduceEqDiff, Bool.not_true, Bool.not_false, Bool.not_not, Bool.false_and, Bool.true_and, Bool.and_true, Bool.and_false, Bool.false_or, Bool.true_or, Bool.or_true, Bool.or_false, decide_true, decide_false, oNe_int, oEq_int, oEq_str, oNe_str, at20, at21, at30, at31, at32, len2, len3, isi_tup, isi_str, le_int, gt_int, lt_int, ge_int, oMax2, oMin2, gt_iff_lt, max_if, min_if, oAdd_int, oSub_int, oNeg_int, cDc, cTupRg, dec_refl, tvYes, List.isEmpty_nil, List.isEmpty_cons]
    simp only [F_is_lot, g_is_lot, k, runF, List.length_cons, List.length_nil, if_true, if_false, List.map_cons, List.map_nil, List.cons_append, List.nil_append, List.replicate, sSeq, sIf, sRet, sNil, sSet, sSetN, sPar, sAsg, sFz, fz, sFor, sExpr, sRaise, sWh, rob, cOr, cAnd, cNot, cT, cTru, cB, cIf, c1, c2, cV, cVw, cK, cAndV, cOrV, cNotV, cChain, aCons, aNil, cCall, cB1, cTup, cLst, cLc, cSeqA, cRng1, cRng2, cEnum, enumO, cZip, zipO, cCut, pSome, pNo, oCut, gT, gsCons, gsNil, gN, Rs.bind, Option.bind, Option.map, ofO, cond, truD, fgt, List.foldl, List.set, lim, List.getElem?_cons_zero, List.getElem?_cons_succ, Nat.zero_add, Nat.reduceSub, Nat.reduceAdd, Nat.reduceLeDiff, Nat.reduceEqDiff, Bool.not_true, Bool.not_false, Bool.not_not, Bool.false_and, Bool.true_and, Bool.and_true, Bool.and_false, Bool.false_or, Bool.true_or, Bool.or_true, Bool.or_false, decide_true, decide_false, oNe_int, oEq_int, oEq_str, oNe_str, at20, at21, at30, at31, at32, len2, len3, isi_tup, isi_str, le_int, gt_int, lt_int, ge_int, oMax2, oMin2, gt_iff_lt, max_if, min_if, oAdd_int, oSub_int, oNeg_int, cDc, cTupRg, dec_refl, tvYes, List.isEmpty_nil, List.isEmpty_cons]
  · refine ⟨_, rfl, lot_no n [0, 0] ?_ (by decide)⟩
    have : lotB n [0, 0] ≠ true := fun h => by have := (lotB_iff.mp h).asc; simp at this
    simpa using this
theorem disp_l (ρ : List Sl) : dispX tabN tabC [("BadLot", fun n => cond (subX n "ShareError" && !subX n "BadPoll") "lot" "other"), ("BadNumber", fun n => cond (subX n "ShareError" && !subX n "BadPoll") "number" "other")] "BadLot" ρ = .rt (.str "lot") := by rfl
theorem disp_n (ρ : List Sl) : dispX tabN tabC [("BadLot", fun n => cond (subX n "ShareError" && !subX n "BadPoll") "lot" "other"), ("BadNumber", fun n => cond (subX n "ShareError" && !subX n "BadPoll") "number" "other")] "BadNumber" ρ = .rt (.str "number") := by rfl
theorem ends_badlot (p : Pl) (g : Good p) (N : Int) (d : Dt) (hN : 1 ≤ N) (hN2 : N ≤ 100000) (h : F_is_lot [.int p.n, d] = .ok (.bl false)) : F_ends [plD p, .int N, d] = .ex "BadLot" := by
  have e1 := E_lookP p g
  have e2 := E_lookN (.int N) rfl
  have e8 : isW (.int N) 1 100000 = true := by unfold isW; simp [hN, hN2]
  rw [e8] at e2
  have a0 : Dl.oAt (plD p) (.int 0) = some (.int p.n) := rfl
  generalize plD p = v at *
  simp only [if_true] at e2
  simp only [F_ends, g_ends, e1, e2, a0, h, runF, List.length_cons, List.length_nil, if_true, if_false, List.map_cons, List.map_nil, List.cons_append, List.nil_append, List.replicate, sSeq, sIf, sRet, sNil, sSet, sSetN, sPar, sAsg, sFz, fz, sFor, sExpr, sRaise, sWh, rob, cOr, cAnd, cNot, cT, cTru, cB, cIf, c1, c2, cV, cVw, cK, cAndV, cOrV, cNotV, cChain, aCons, aNil, cCall, cB1, cTup, cLst, cLc, cSeqA, cRng1, cRng2, cEnum, enumO, cZip, zipO, cCut, pSome, pNo, oCut, gT, gsCons, gsNil, gN, Rs.bind, Option.bind, Option.map, ofO, cond, truD, fgt, List.foldl, List.set, lim, List.getElem?_cons_zero, List.getElem?_cons_succ, Nat.zero_add, Nat.reduceSub, Nat.reduceAdd, Nat.reduceLeDiff, Nat.reduceEqDiff, Bool.not_true, Bool.not_false, Bool.not_not, Bool.false_and, Bool.true_and, Bool.and_true, Bool.and_false, Bool.false_or, Bool.true_or, Bool.or_true, Bool.or_false, decide_true, decide_false, oNe_int, oEq_int, oEq_str, oNe_str, at20, at21, at30, at31, at32, len2, len3, isi_tup, isi_str, le_int, gt_int, lt_int, ge_int, oMax2, oMin2, gt_iff_lt, max_if, min_if, oAdd_int, oSub_int, oNeg_int, cDc, cTupRg, dec_refl, tvYes, List.isEmpty_nil, List.isEmpty_cons]
theorem ends_badnum (p : Pl) (g : Good p) (d l : Dt) (hd : plain d = true) (h : isW d 1 100000 = false) : F_ends [plD p, d, l] = .ex "BadNumber" := by
  have e1 := E_lookP p g
  have e2 := E_lookN d hd
  rw [h] at e2
  generalize plD p = v at *
  simp only [Bool.false_eq_true, if_false] at e2
  simp only [F_ends, g_ends, e1, e2, runF, List.length_cons, List.length_nil, if_true, if_false, List.map_cons, List.map_nil, List.cons_append, List.nil_append, List.replicate, sSeq, sIf, sRet, sNil, sSet, sSetN, sPar, sAsg, sFz, fz, sFor, sExpr, sRaise, sWh, rob, cOr, cAnd, cNot, cT, cTru, cB, cIf, c1, c2, cV, cVw, cK, cAndV, cOrV, cNotV, cChain, aCons, aNil, cCall, cB1, cTup, cLst, cLc, cSeqA, cRng1, cRng2, cEnum, enumO, cZip, zipO, cCut, pSome, pNo, oCut, gT, gsCons, gsNil, gN, Rs.bind, Option.bind, Option.map, ofO, cond, truD, fgt, List.foldl, List.set, lim, List.getElem?_cons_zero, List.getElem?_cons_succ, Nat.zero_add, Nat.reduceSub, Nat.reduceAdd, Nat.reduceLeDiff, Nat.reduceEqDiff, Bool.not_true, Bool.not_false, Bool.not_not, Bool.false_and, Bool.true_and, Bool.and_true, Bool.and_false, Bool.false_or, Bool.true_or, Bool.or_true, Bool.or_false, decide_true, decide_false, oNe_int, oEq_int, oEq_str, oNe_str, at20, at21, at30, at31, at32, len2, len3, isi_tup, isi_str, le_int, gt_int, lt_int, ge_int, oMax2, oMin2, gt_iff_lt, max_if, min_if, oAdd_int, oSub_int, oNeg_int, cDc, cTupRg, dec_refl, tvYes, List.isEmpty_nil, List.isEmpty_cons]
theorem word_lot (a b c : Dt) (h : F_ends [a, b, c] = .ex "BadLot") : F__law_ends_word [a, b, c] = .ok (.str "lot") := by
  refine run_rt (ρ := [.va a, .va b, .va c, .no]) rfl rfl ?_
  have e : sExpr (cCall F_ends (aCons (cV 0) (aCons (cV 1) (aCons (cV 2) aNil)))) [.va a, .va b, .va c, .no] = .ex "BadLot" [.va a, .va b, .va c, .no] := by simp only [h, runF, List.length_cons, List.length_nil, if_true, if_false, List.map_cons, List.map_nil, List.cons_append, List.nil_append, List.replicate, sSeq, sIf, sRet, sNil, sSet, sSetN, sPar, sAsg, sFz, fz, sFor, sExpr, sRaise, sWh, rob, cOr, cAnd, cNot, cT, cTru, cB, cIf, c1, c2, cV, cVw, cK, cAndV, cOrV, cNotV, cChain, aCons, aNil, cCall, cB1, cTup, cLst, cLc, cSeqA, cRng1, cRng2, cEnum, enumO, cZip, zipO, cCut, pSome, pNo, oCut, gT, gsCons, gsNil, gN, Rs.bind, Option.bind, Option.map, ofO, cond, truD, fgt, List.foldl, List.set, lim, List.getElem?_cons_zero, List.getElem?_cons_succ, Nat.zero_add, Nat.reduceSub, Nat.reduceAdd, Nat.reduceLeDiff, Nat.reduceEqDiff, Bool.not_true, Bool.not_false, Bool.not_not, Bool.false_and, Bool.true_and, Bool.and_true, Bool.and_false, Bool.false_or, Bool.true_or, Bool.or_true, Bool.or_false, decide_true, decide_false, oNe_int, oEq_int, oEq_str, oNe_str]
  simp only [g__law_ends_word, sSeq, sTryR, e, disp_l]
theorem word_num (a b c : Dt) (h : F_ends [a, b, c] = .ex "BadNumber") : F__law_ends_word [a, b, c] = .ok (.str "number") := by
  refine run_rt (ρ := [.va a, .va b, .va c, .no]) rfl rfl ?_
  have e : sExpr (cCall F_ends (aCons (cV 0) (aCons (cV 1) (aCons (cV 2) aNil)))) [.va a, .va b, .va c, .no] = .ex "BadNumber" [.va a, .va b, .va c, .no] := by simp only [h, runF, List.length_cons, List.length_nil, if_true, if_false, List.map_cons, List.map_nil, List.cons_append, List.nil_append, List.replicate, sSeq, sIf, sRet, sNil, sSet, sSetN, sPar, sAsg, sFz, fz, sFor, sExpr, sRaise, sWh, rob, cOr, cAnd, cNot, cT, cTru, cB, cIf, c1, c2, cV, cVw, cK, cAndV, cOrV, cNotV, cChain, aCons, aNil, cCall, cB1, cTup, cLst, cLc, cSeqA, cRng1, cRng2, cEnum, enumO, cZip, zipO, cCut, pSome, pNo, oCut, gT, gsCons, gsNil, gN, Rs.bind, Option.bind, Option.map, ofO, cond, truD, fgt, List.foldl, List.set, lim, List.getElem?_cons_zero, List.getElem?_cons_succ, Nat.zero_add, Nat.reduceSub, Nat.reduceAdd, Nat.reduceLeDiff, Nat.reduceEqDiff, Bool.not_true, Bool.not_false, Bool.not_not, Bool.false_and, Bool.true_and, Bool.and_true, Bool.and_false, Bool.false_or, Bool.true_or, Bool.or_true, Bool.or_false, decide_true, decide_false, oNe_int, oEq_int, oEq_str, oNe_str]
  simp only [g__law_ends_word, sSeq, sTryR, e, disp_n]
/-! ### good counts -/
def gB (N c : Int) (l : Lot) (s : Dl.Sh) (g : Bool) (q : Lot × Int) : Bool := if q.1 = l ∧ shF c N s.u s.w ≠ q.2 then false else g
theorem gB_all (N c : Int) (l : Lot) (s : Dl.Sh) : ∀ (ps : List (Lot × Int)) (g : Bool), ps.foldl (gB N c l s) g = true ↔ g = true ∧ ∀ q ∈ ps, q.1 = l → shF c N s.u s.w = q.2
  | [], g => by simp
  | q :: ps, g => by
    rw [List.foldl_cons, gB_all N c l s ps]
    unfold gB
    constructor
    · rintro ⟨h1, h2⟩
      split at h1
      · cases h1
      · rename_i hn
        refine ⟨h1, fun r hr => ?_⟩
        rcases List.mem_cons.mp hr with rfl | hr
        · intro e; exact Classical.byContradiction fun z => hn ⟨e, z⟩
        · exact h2 r hr
    · rintro ⟨h1, h2⟩
      have : ¬ (q.1 = l ∧ shF c N s.u s.w ≠ q.2) := fun ⟨e, z⟩ => z (h2 q List.mem_cons_self e)
      rw [if_neg this]
      exact ⟨h1, fun r hr => h2 r (List.mem_cons_of_mem _ hr)⟩
theorem gB_alls (N c : Int) (l : Lot) : ∀ (ss : List Dl.Sh) (g : Bool), ss.foldl (fun g s => s.ps.foldl (gB N c l s) g) g = true ↔ g = true ∧ ∀ s ∈ ss, ∀ q ∈ s.ps, q.1 = l → shF c N s.u s.w = q.2
  | [], g => by simp
  | s :: ss, g => by
    rw [List.foldl_cons, gB_alls N c l ss, gB_all]
    constructor
    · rintro ⟨⟨h1, h2⟩, h3⟩
      refine ⟨h1, fun t ht => ?_⟩
      rcases List.mem_cons.mp ht with rfl | ht
      · exact h2
      · exact h3 t ht
    · rintro ⟨h1, h2⟩
      exact ⟨⟨h1, h2 s List.mem_cons_self⟩, fun t ht => h2 t (List.mem_cons_of_mem _ ht)⟩
theorem b1 (a0 a1 a2 a5 a6 a7 a12 : Dt) (N c : Int) (l : Lot) (g : Bool) (s : Dl.Sh) (q : Lot × Int) (hN : 1 ≤ N) (hN2 : N ≤ 100000) (hu : 2 ≤ s.u) (hu2 : s.u ≤ 100) :
    b_law_1 [.va a0, .va a1, .va a2, .va (.int N), .va (lotD l), .va a5, .va a6, .va a7, .va (.int c), .va (.bl g), .va (.int s.u), .va (.str s.w), .va a12, .va (lotD q.1), .va (.int q.2), .no] =
      .nx [.va a0, .va a1, .va a2, .va (.int N), .va (lotD l), .va a5, .va a6, .va a7, .va (.int c), .va (.bl (gB N c l s g q)), .va (.int s.u), .va (.str s.w), .va a12, .va (lotD q.1), .va (.int q.2), .no] := by
  have e1 := oEq_lot q.1 l
  have e2 := E_lsh c N s.u s.w hN hN2 hu hu2
  unfold gB
  by_cases h1 : q.1 = l
  · rw [decide_eq_true h1] at e1
    by_cases h2 : shF c N s.u s.w = q.2
    · have d2 : decide (shF c N s.u s.w = q.2) = true := decide_eq_true h2
      simp only [h1, h2, ne_eq, not_true_eq_false, and_false, if_false]
      rw [h2] at d2 e2
      rw [h1] at e1
      simp only [b_law_1, e1, e2, runF, List.length_cons, List.length_nil, if_true, if_false, List.map_cons, List.map_nil, List.cons_append, List.nil_append, List.replicate, sSeq, sIf, sRet, sNil, sSet, sSetN, sPar, sAsg, sFz, fz, sFor, sExpr, sRaise, sWh, rob, cOr, cAnd, cNot, cT, cTru, cB, cIf, c1, c2, cV, cVw, cK, cAndV, cOrV, cNotV, cChain, aCons, aNil, cCall, cB1, cTup, cLst, cLc, cSeqA, cRng1, cRng2, cEnum, enumO, cZip, zipO, cCut, pSome, pNo, oCut, gT, gsCons, gsNil, gN, Rs.bind, Option.bind, Option.map, ofO, cond, truD, fgt, List.foldl, List.set, lim, List.getElem?_cons_zero, List.getElem?_cons_succ, Nat.zero_add, Nat.reduceSub, Nat.reduceAdd, Nat.reduceLeDiff, Nat.reduceEqDiff, Bool.not_true, Bool.not_false, Bool.not_not, Bool.false_and, Bool.true_and, Bool.and_true, Bool.and_false, Bool.false_or, Bool.true_or, Bool.or_true, Bool.or_false, decide_true, decide_false, oNe_int, oEq_int, oEq_str, oNe_str, at20, at21, at30, at31, at32, len2, len3, isi_tup, isi_str, le_int, gt_int, lt_int, ge_int, oMax2, oMin2, gt_iff_lt, max_if, min_if, oAdd_int, oSub_int, oNeg_int, cDc, cTupRg, dec_refl, tvYes, List.isEmpty_nil, List.isEmpty_cons]
    · have d2 : decide (shF c N s.u s.w = q.2) = false := decide_eq_false h2
      simp only [h1, h2, ne_eq, not_false_eq_true, and_self, if_true]
      rw [h1] at e1
      simp only [b_law_1, e1, e2, d2, runF, List.length_cons, List.length_nil, if_true, if_false, List.map_cons, List.map_nil, List.cons_append, List.nil_append, List.replicate, sSeq, sIf, sRet, sNil, sSet, sSetN, sPar, sAsg, sFz, fz, sFor, sExpr, sRaise, sWh, rob, cOr, cAnd, cNot, cT, cTru, cB, cIf, c1, c2, cV, cVw, cK, cAndV, cOrV, cNotV, cChain, aCons, aNil, cCall, cB1, cTup, cLst, cLc, cSeqA, cRng1, cRng2, cEnum, enumO, cZip, zipO, cCut, pSome, pNo, oCut, gT, gsCons, gsNil, gN, Rs.bind, Option.bind, Option.map, ofO, cond, truD, fgt, List.foldl, List.set, lim, List.getElem?_cons_zero, List.getElem?_cons_succ, Nat.zero_add, Nat.reduceSub, Nat.reduceAdd, Nat.reduceLeDiff, Nat.reduceEqDiff, Bool.not_true, Bool.not_false, Bool.not_not, Bool.false_and, Bool.true_and, Bool.and_true, Bool.and_false, Bool.false_or, Bool.true_or, Bool.or_true, Bool.or_false, decide_true, decide_false, oNe_int, oEq_int, oEq_str, oNe_str, at20, at21, at30, at31, at32, len2, len3, isi_tup, isi_str, le_int, gt_int, lt_int, ge_int, oMax2, oMin2, gt_iff_lt, max_if, min_if, oAdd_int, oSub_int, oNeg_int, cDc, cTupRg, dec_refl, tvYes, List.isEmpty_nil, List.isEmpty_cons]
  · rw [decide_eq_false h1] at e1
    simp only [h1, false_and, if_false]
    simp only [b_law_1, e1, runF, List.length_cons, List.length_nil, if_true, if_false, List.map_cons, List.map_nil, List.cons_append, List.nil_append, List.replicate, sSeq, sIf, sRet, sNil, sSet, sSetN, sPar, sAsg, sFz, fz, sFor, sExpr, sRaise, sWh, rob, cOr, cAnd, cNot, cT, cTru, cB, cIf, c1, c2, cV, cVw, cK, cAndV, cOrV, cNotV, cChain, aCons, aNil, cCall, cB1, cTup, cLst, cLc, cSeqA, cRng1, cRng2, cEnum, enumO, cZip, zipO, cCut, pSome, pNo, oCut, gT, gsCons, gsNil, gN, Rs.bind, Option.bind, Option.map, ofO, cond, truD, fgt, List.foldl, List.set, lim, List.getElem?_cons_zero, List.getElem?_cons_succ, Nat.zero_add, Nat.reduceSub, Nat.reduceAdd, Nat.reduceLeDiff, Nat.reduceEqDiff, Bool.not_true, Bool.not_false, Bool.not_not, Bool.false_and, Bool.true_and, Bool.and_true, Bool.and_false, Bool.false_or, Bool.true_or, Bool.or_true, Bool.or_false, decide_true, decide_false, oNe_int, oEq_int, oEq_str, oNe_str, at20, at21, at30, at31, at32, len2, len3, isi_tup, isi_str, le_int, gt_int, lt_int, ge_int, oMax2, oMin2, gt_iff_lt, max_if, min_if, oAdd_int, oSub_int, oNeg_int, cDc, cTupRg, dec_refl, tvYes, List.isEmpty_nil, List.isEmpty_cons]
theorem b2 (a0 a1 a2 a5 a6 a7 : Dt) (N c : Int) (l : Lot) (g : Bool) (s : Dl.Sh) (hN : 1 ≤ N) (hN2 : N ≤ 100000) (hu : 2 ≤ s.u) (hu2 : s.u ≤ 100) :
    b_law_2 [.va a0, .va a1, .va a2, .va (.int N), .va (lotD l), .va a5, .va a6, .va a7, .va (.int c), .va (.bl g), .va (.int s.u), .va (.str s.w), .va (.tup (s.ps.map ptD)), .no, .no, .no] =
      .nx [.va a0, .va a1, .va a2, .va (.int N), .va (lotD l), .va a5, .va a6, .va a7, .va (.int c), .va (.bl (s.ps.foldl (gB N c l s) g)), .va (.int s.u), .va (.str s.w), .va (.tup (s.ps.map ptD)), .no, .no, .no] := by
  refine (goFor_fold ptD (fun g : Bool => [.va a0, .va a1, .va a2, .va (.int N), .va (lotD l), .va a5, .va a6, .va a7, .va (.int c), .va (.bl g), .va (.int s.u), .va (.str s.w), .va (.tup (s.ps.map ptD)), .no, .no, .no]) (gB N c l s) (fun _ => True) s.ps g trivial ?_).1
  intro g q hq _
  exact ⟨trivial, _, _, rfl, b1 a0 a1 a2 a5 a6 a7 _ N c l g s q hN hN2 hu hu2, rfl⟩
theorem b2s (p : Pl) (z : Sized p) (a0 a1 a2 a5 a6 a7 : Dt) (N c : Int) (l : Lot) (g : Bool) (hN : 1 ≤ N) (hN2 : N ≤ 100000) :
    goFor (gT (gsCons (gN 10) (gsCons (gN 11) (gsCons (gN 12) gsNil)))) [10, 11, 12, 13, 14] b_law_2 (p.ss.map shD) [.va a0, .va a1, .va a2, .va (.int N), .va (lotD l), .va a5, .va a6, .va a7, .va (.int c), .va (.bl g), .no, .no, .no, .no, .no, .no] =
      .nx [.va a0, .va a1, .va a2, .va (.int N), .va (lotD l), .va a5, .va a6, .va a7, .va (.int c), .va (.bl (p.ss.foldl (fun g s => s.ps.foldl (gB N c l s) g) g)), .no, .no, .no, .no, .no, .no] := by
  refine (goFor_fold shD (fun g : Bool => [.va a0, .va a1, .va a2, .va (.int N), .va (lotD l), .va a5, .va a6, .va a7, .va (.int c), .va (.bl g), .no, .no, .no, .no, .no, .no]) (fun g s => s.ps.foldl (gB N c l s) g) (fun _ => True) p.ss g trivial ?_).1
  intro g s hs _
  exact ⟨trivial, _, _, rfl, b2 a0 a1 a2 a5 a6 a7 N c l g s hN hN2 (z.u1 s hs) (z.u2 s hs), rfl⟩
theorem pick (x a b c t : Int) (h0 : 0 ≤ t) (h1 : t < 4) : ∃ v, Dl.oAt (.lst [.int x, .int a, .int b, .int c]) (.int t) = some (.int v) := by
  have k : t = 0 ∨ t = 1 ∨ t = 2 ∨ t = 3 := by omega
  rcases k with rfl | rfl | rfl | rfl <;> exact ⟨_, rfl⟩
theorem b3 (p : Pl) (g : Good p) {row : List Int} (hl : row.length = 60) (a0 : Dt) (N t : Int) (l : Lot) (hN : 1 ≤ N) (hN2 : N ≤ 100000) (hm : l ∈ lotsP p) (h0 : 0 ≤ t) (h1 : t < 4) :
    ∃ ρ2, b_law_3 [.va a0, .va (.lst (row.map Dt.int)), .va (plD p), .va (.int N), .va (lotD l), .va (.int (endF p N l).1), .va (.int (endF p N l).2), .va (.int t), .no, .no, .no, .no, .no, .no, .no, .no] = .nx ρ2 ∧
      fgt [7, 8, 9, 10, 11, 12, 13, 14] ρ2 = [.va a0, .va (.lst (row.map Dt.int)), .va (plD p), .va (.int N), .va (lotD l), .va (.int (endF p N l).1), .va (.int (endF p N l).2), .no, .no, .no, .no, .no, .no, .no, .no, .no] := by
  have m1 := row_at' hl (5 + t) (by omega) (by omega)
  have o1 := oMod_ok (i := at0 row (5 + t)) (show 0 < N + 1 by omega)
  obtain ⟨c, hc⟩ := pick (at0 row (5 + t) % (N + 1)) (endF p N l).1 (endF p N l).2 ((endF p N l).1 - 1) t h0 h1
  have q0 : Dl.oAt (plD p) (.int 0) = some (.int p.n) := rfl
  have q1 : Dl.oAt (plD p) (.int 1) = some (.str (kindS p.one)) := rfl
  have q2 : Dl.oAt (plD p) (.int 2) = some (.tup (p.ss.map shD)) := rfl
  have k := kind_some p.one
  have n1 := len_lot l
  have lo := g.lot hm
  have ll := asc_len lo (by have := g.n1; omega)
  have full : (l.length : Int) = p.n ↔ l = rng p.n.toNat := ⟨full_eq lo, fun e => by rw [e, len_rng]; have := g.n1; omega⟩
  by_cases hin : 0 ≤ c ∧ c ≤ N
  · have iff := ends_iff p N l c hin.1 hin.2 hN g.sized.u1
    have bb := b2s p g.sized a0 (.lst (row.map Dt.int)) (plD p) (.int (endF p N l).1) (.int (endF p N l).2) (.int t) N c l (!p.one || (decide ((l.length : Int) < p.n) || decide (c = N))) hN hN2
    have ga := gB_alls N c l p.ss (!p.one || (decide ((l.length : Int) < p.n) || decide (c = N)))
    have eqv : p.ss.foldl (fun g s => s.ps.foldl (gB N c l s) g) (!p.one || (decide ((l.length : Int) < p.n) || decide (c = N))) = (decide ((endF p N l).1 ≤ c) && decide (c ≤ (endF p N l).2)) := by
      rw [Bool.eq_iff_iff, ga]
      simp only [Bool.and_eq_true, decide_eq_true_eq]
      rw [iff]
      refine and_congr ?_ Iff.rfl
      simp only [Bool.or_eq_true, Bool.not_eq_true', decide_eq_true_eq]
      cases ho : p.one with
      | false => simp
      | true =>
        simp only [Bool.true_eq_false, false_or, true_and]
        rw [← full]
        omega
    rw [eqv] at bb
    have w1 : decide (0 ≤ c) = true := decide_eq_true hin.1
    have w2 : decide (c ≤ N) = true := decide_eq_true hin.2
    refine ⟨[.va a0, .va (.lst (row.map Dt.int)), .va (plD p), .va (.int N), .va (lotD l), .va (.int (endF p N l).1), .va (.int (endF p N l).2), .va (.int t), .va (.int c), .va (.bl (decide ((endF p N l).1 ≤ c) && decide (c ≤ (endF p N l).2))), .no, .no, .no, .no, .no, .no], ?_, rfl⟩
    have ne : ∀ b : Bool, oNe (.bl b) (.bl b) = some (.bl false) := fun b => by cases b <;> rfl
    have tl : (sSeq (sSet 9 (cOrV (c2 oEq (c2 Dl.oAt (cVw 2) (cK (.int 1))) (cK (.str "some"))) (cOrV (c2 oLt (cB1 oLen (aCons (cVw 4) aNil)) (c2 Dl.oAt (cVw 2) (cK (.int 0)))) (c2 oEq (cVw 8) (cVw 3)))))
  (sSeq (sFor (cSeqA (c2 Dl.oAt (cVw 2) (cK (.int 2)))) (gT (gsCons (gN 10) (gsCons (gN 11) (gsCons (gN 12) gsNil)))) [10, 11, 12, 13, 14] b_law_2)
  (sIf (cT (c2 oNe (cChain oLe oLe (cV 5) (cV 8) (cV 6)) (cVw 9))) (sRet (cK (.bl false))) sNil))) [.va a0, .va (.lst (row.map Dt.int)), .va (plD p), .va (.int N), .va (lotD l), .va (.int (endF p N l).1), .va (.int (endF p N l).2), .va (.int t), .va (.int c), .no, .no, .no, .no, .no, .no, .no] = .nx [.va a0, .va (.lst (row.map Dt.int)), .va (plD p), .va (.int N), .va (lotD l), .va (.int (endF p N l).1), .va (.int (endF p N l).2), .va (.int t), .va (.int c), .va (.bl (decide ((endF p N l).1 ≤ c) && decide (c ≤ (endF p N l).2))), .no, .no, .no, .no, .no, .no] := by
      refine (seq_nx (ρ' := [.va a0, .va (.lst (row.map Dt.int)), .va (plD p), .va (.int N), .va (lotD l), .va (.int (endF p N l).1), .va (.int (endF p N l).2), .va (.int t), .va (.int c), .va (.bl (!p.one || (decide ((l.length : Int) < p.n) || decide (c = N)))), .no, .no, .no, .no, .no, .no]) ?_).trans ?_
      · clear bb eqv ga iff ll full
        generalize ((l.length : Nat) : Int) = ln at *
        generalize plD p = v at *
        cases x1 : p.one <;> rw [x1] at k q1 <;> cases x2 : decide (ln < p.n) <;> cases x3 : decide (c = N) <;> simp only [q0, q1, k, n1, x2, x3, runF, List.length_cons, List.length_nil, if_true, if_false, List.map_cons, List.map_nil, List.cons_append, List.nil_append, List.replicate, sSeq, sIf, sRet, sNil, sSet, sSetN, sPar, sAsg, sFz, fz, sFor, sExpr, sRaise, sWh, rob, cOr, cAnd, cNot, cT, cTru, cB, cIf, c1, c2, cV, cVw, cK, cAndV, cOrV, cNotV, cChain, aCons, aNil, cCall, cB1, cTup, cLst, cLc, cSeqA, cRng1, cRng2, cEnum, enumO, cZip, zipO, cCut, pSome, pNo, oCut, gT, gsCons, gsNil, gN, Rs.bind, Option.bind, Option.map, ofO, cond, truD, fgt, List.foldl, List.set, lim, List.getElem?_cons_zero, List.getElem?_cons_succ, Nat.zero_add, Nat.reduceSub, Nat.reduceAdd, Nat.reduceLeDiff, Nat.reduceEqDiff, Bool.not_true, Bool.not_false, Bool.not_not, Bool.false_and, Bool.true_and, Bool.and_true, Bool.and_false, Bool.false_or, Bool.true_or, Bool.or_true, Bool.or_false, decide_true, decide_false, oNe_int, oEq_int, oEq_str, oNe_str, at20, at21, at30, at31, at32, len2, len3, isi_tup, isi_str, le_int, gt_int, lt_int, ge_int, oMax2, oMin2, gt_iff_lt, max_if, min_if, oAdd_int, oSub_int, oNeg_int, cDc, cTupRg, dec_refl, tvYes, List.isEmpty_nil, List.isEmpty_cons]
      · refine (seq_nx (ρ' := [.va a0, .va (.lst (row.map Dt.int)), .va (plD p), .va (.int N), .va (lotD l), .va (.int (endF p N l).1), .va (.int (endF p N l).2), .va (.int t), .va (.int c), .va (.bl (decide ((endF p N l).1 ≤ c) && decide (c ≤ (endF p N l).2))), .no, .no, .no, .no, .no, .no]) ?_).trans ?_
        · clear eqv ga iff ll full
          generalize plD p = v at *
          simp only [q2, bb, runF, List.length_cons, List.length_nil, if_true, if_false, List.map_cons, List.map_nil, List.cons_append, List.nil_append, List.replicate, sSeq, sIf, sRet, sNil, sSet, sSetN, sPar, sAsg, sFz, fz, sFor, sExpr, sRaise, sWh, rob, cOr, cAnd, cNot, cT, cTru, cB, cIf, c1, c2, cV, cVw, cK, cAndV, cOrV, cNotV, cChain, aCons, aNil, cCall, cB1, cTup, cLst, cLc, cSeqA, cRng1, cRng2, cEnum, enumO, cZip, zipO, cCut, pSome, pNo, oCut, gT, gsCons, gsNil, gN, Rs.bind, Option.bind, Option.map, ofO, cond, truD, fgt, List.foldl, List.set, lim, List.getElem?_cons_zero, List.getElem?_cons_succ, Nat.zero_add, Nat.reduceSub, Nat.reduceAdd, Nat.reduceLeDiff, Nat.reduceEqDiff, Bool.not_true, Bool.not_false, Bool.not_not, Bool.false_and, Bool.true_and, Bool.and_true, Bool.and_false, Bool.false_or, Bool.true_or, Bool.or_true, Bool.or_false, decide_true, decide_false, oNe_int, oEq_int, oEq_str, oNe_str, at20, at21, at30, at31, at32, len2, len3, isi_tup, isi_str, le_int, gt_int, lt_int, ge_int, oMax2, oMin2, gt_iff_lt, max_if, min_if, oAdd_int, oSub_int, oNeg_int, cDc, cTupRg, dec_refl, tvYes, List.isEmpty_nil, List.isEmpty_cons]
        · clear bb eqv ga iff ll full
          generalize (endF p N l).1 = lo' at *
          generalize (endF p N l).2 = hi' at *
          cases x1 : decide (lo' ≤ c) <;> cases x2 : decide (c ≤ hi') <;> simp only [x1, x2, ne, runF, List.length_cons, List.length_nil, if_true, if_false, List.map_cons, List.map_nil, List.cons_append, List.nil_append, List.replicate, sSeq, sIf, sRet, sNil, sSet, sSetN, sPar, sAsg, sFz, fz, sFor, sExpr, sRaise, sWh, rob, cOr, cAnd, cNot, cT, cTru, cB, cIf, c1, c2, cV, cVw, cK, cAndV, cOrV, cNotV, cChain, aCons, aNil, cCall, cB1, cTup, cLst, cLc, cSeqA, cRng1, cRng2, cEnum, enumO, cZip, zipO, cCut, pSome, pNo, oCut, gT, gsCons, gsNil, gN, Rs.bind, Option.bind, Option.map, ofO, cond, truD, fgt, List.foldl, List.set, lim, List.getElem?_cons_zero, List.getElem?_cons_succ, Nat.zero_add, Nat.reduceSub, Nat.reduceAdd, Nat.reduceLeDiff, Nat.reduceEqDiff, Bool.not_true, Bool.not_false, Bool.not_not, Bool.false_and, Bool.true_and, Bool.and_true, Bool.and_false, Bool.false_or, Bool.true_or, Bool.or_true, Bool.or_false, decide_true, decide_false, oNe_int, oEq_int, oEq_str, oNe_str, at20, at21, at30, at31, at32, len2, len3, isi_tup, isi_str, le_int, gt_int, lt_int, ge_int, oMax2, oMin2, gt_iff_lt, max_if, min_if, oAdd_int, oSub_int, oNeg_int, cDc, cTupRg, dec_refl, tvYes, List.isEmpty_nil, List.isEmpty_cons] <;> rfl
    clear bb eqv ga iff ll full
    generalize plD p = v at *
    generalize row.map Dt.int = rw' at *
    generalize (endF p N l).1 = lo' at *
    generalize (endF p N l).2 = hi' at *
    unfold b_law_3
    refine (seq_nx (ρ' := [.va a0, .va (.lst rw'), .va v, .va (.int N), .va (lotD l), .va (.int lo'), .va (.int hi'), .va (.int t), .va (.int c), .no, .no, .no, .no, .no, .no, .no]) ?_).trans ?_
    · simp only [m1, o1, hc, runF, List.length_cons, List.length_nil, if_true, if_false, List.map_cons, List.map_nil, List.cons_append, List.nil_append, List.replicate, sSeq, sIf, sRet, sNil, sSet, sSetN, sPar, sAsg, sFz, fz, sFor, sExpr, sRaise, sWh, rob, cOr, cAnd, cNot, cT, cTru, cB, cIf, c1, c2, cV, cVw, cK, cAndV, cOrV, cNotV, cChain, aCons, aNil, cCall, cB1, cTup, cLst, cLc, cSeqA, cRng1, cRng2, cEnum, enumO, cZip, zipO, cCut, pSome, pNo, oCut, gT, gsCons, gsNil, gN, Rs.bind, Option.bind, Option.map, ofO, cond, truD, fgt, List.foldl, List.set, lim, List.getElem?_cons_zero, List.getElem?_cons_succ, Nat.zero_add, Nat.reduceSub, Nat.reduceAdd, Nat.reduceLeDiff, Nat.reduceEqDiff, Bool.not_true, Bool.not_false, Bool.not_not, Bool.false_and, Bool.true_and, Bool.and_true, Bool.and_false, Bool.false_or, Bool.true_or, Bool.or_true, Bool.or_false, decide_true, decide_false, oNe_int, oEq_int, oEq_str, oNe_str, at20, at21, at30, at31, at32, len2, len3, isi_tup, isi_str, le_int, gt_int, lt_int, ge_int, oMax2, oMin2, gt_iff_lt, max_if, min_if, oAdd_int, oSub_int, oNeg_int, cDc, cTupRg, dec_refl, tvYes, List.isEmpty_nil, List.isEmpty_cons]
    · have cond1 : cT (cChain oLe oLe (cK (.int 0)) (cV 8) (cV 3)) [.va a0, .va (.lst rw'), .va v, .va (.int N), .va (lotD l), .va (.int lo'), .va (.int hi'), .va (.int t), .va (.int c), .no, .no, .no, .no, .no, .no, .no] = .ok true := by
        simp only [w1, w2, runF, List.length_cons, List.length_nil, if_true, if_false, List.map_cons, List.map_nil, List.cons_append, List.nil_append, List.replicate, sSeq, sIf, sRet, sNil, sSet, sSetN, sPar, sAsg, sFz, fz, sFor, sExpr, sRaise, sWh, rob, cOr, cAnd, cNot, cT, cTru, cB, cIf, c1, c2, cV, cVw, cK, cAndV, cOrV, cNotV, cChain, aCons, aNil, cCall, cB1, cTup, cLst, cLc, cSeqA, cRng1, cRng2, cEnum, enumO, cZip, zipO, cCut, pSome, pNo, oCut, gT, gsCons, gsNil, gN, Rs.bind, Option.bind, Option.map, ofO, cond, truD, fgt, List.foldl, List.set, lim, List.getElem?_cons_zero, List.getElem?_cons_succ, Nat.zero_add, Nat.reduceSub, Nat.reduceAdd, Nat.reduceLeDiff, Nat.reduceEqDiff, Bool.not_true, Bool.not_false, Bool.not_not, Bool.false_and, Bool.true_and, Bool.and_true, Bool.and_false, Bool.false_or, Bool.true_or, Bool.or_true, Bool.or_false, decide_true, decide_false, oNe_int, oEq_int, oEq_str, oNe_str, at20, at21, at30, at31, at32, len2, len3, isi_tup, isi_str, le_int, gt_int, lt_int, ge_int, oMax2, oMin2, gt_iff_lt, max_if, min_if, oAdd_int, oSub_int, oNeg_int, cDc, cTupRg, dec_refl, tvYes, List.isEmpty_nil, List.isEmpty_cons]
      simp only [sIf, cond1, rob, cond]
      exact tl
  · refine ⟨[.va a0, .va (.lst (row.map Dt.int)), .va (plD p), .va (.int N), .va (lotD l), .va (.int (endF p N l).1), .va (.int (endF p N l).2), .va (.int t), .va (.int c), .no, .no, .no, .no, .no, .no, .no], ?_, rfl⟩
    generalize plD p = v at *
    generalize row.map Dt.int = rw' at *
    generalize (endF p N l).1 = lo' at *
    generalize (endF p N l).2 = hi' at *
    unfold b_law_3
    refine (seq_nx (ρ' := [.va a0, .va (.lst rw'), .va v, .va (.int N), .va (lotD l), .va (.int lo'), .va (.int hi'), .va (.int t), .va (.int c), .no, .no, .no, .no, .no, .no, .no]) ?_).trans ?_
    · simp only [m1, o1, hc, runF, List.length_cons, List.length_nil, if_true, if_false, List.map_cons, List.map_nil, List.cons_append, List.nil_append, List.replicate, sSeq, sIf, sRet, sNil, sSet, sSetN, sPar, sAsg, sFz, fz, sFor, sExpr, sRaise, sWh, rob, cOr, cAnd, cNot, cT, cTru, cB, cIf, c1, c2, cV, cVw, cK, cAndV, cOrV, cNotV, cChain, aCons, aNil, cCall, cB1, cTup, cLst, cLc, cSeqA, cRng1, cRng2, cEnum, enumO, cZip, zipO, cCut, pSome, pNo, oCut, gT, gsCons, gsNil, gN, Rs.bind, Option.bind, Option.map, ofO, cond, truD, fgt, List.foldl, List.set, lim, List.getElem?_cons_zero, List.getElem?_cons_succ, Nat.zero_add, Nat.reduceSub, Nat.reduceAdd, Nat.reduceLeDiff, Nat.reduceEqDiff, Bool.not_true, Bool.not_false, Bool.not_not, Bool.false_and, Bool.true_and, Bool.and_true, Bool.and_false, Bool.false_or, Bool.true_or, Bool.or_true, Bool.or_false, decide_true, decide_false, oNe_int, oEq_int, oEq_str, oNe_str, at20, at21, at30, at31, at32, len2, len3, isi_tup, isi_str, le_int, gt_int, lt_int, ge_int, oMax2, oMin2, gt_iff_lt, max_if, min_if, oAdd_int, oSub_int, oNeg_int, cDc, cTupRg, dec_refl, tvYes, List.isEmpty_nil, List.isEmpty_cons]
    · by_cases x1 : 0 ≤ c
      · have w1 : decide (0 ≤ c) = true := decide_eq_true x1
        have w2 : decide (c ≤ N) = false := decide_eq_false fun z => hin ⟨x1, z⟩
        simp only [w1, w2, runF, List.length_cons, List.length_nil, if_true, if_false, List.map_cons, List.map_nil, List.cons_append, List.nil_append, List.replicate, sSeq, sIf, sRet, sNil, sSet, sSetN, sPar, sAsg, sFz, fz, sFor, sExpr, sRaise, sWh, rob, cOr, cAnd, cNot, cT, cTru, cB, cIf, c1, c2, cV, cVw, cK, cAndV, cOrV, cNotV, cChain, aCons, aNil, cCall, cB1, cTup, cLst, cLc, cSeqA, cRng1, cRng2, cEnum, enumO, cZip, zipO, cCut, pSome, pNo, oCut, gT, gsCons, gsNil, gN, Rs.bind, Option.bind, Option.map, ofO, cond, truD, fgt, List.foldl, List.set, lim, List.getElem?_cons_zero, List.getElem?_cons_succ, Nat.zero_add, Nat.reduceSub, Nat.reduceAdd, Nat.reduceLeDiff, Nat.reduceEqDiff, Bool.not_true, Bool.not_false, Bool.not_not, Bool.false_and, Bool.true_and, Bool.and_true, Bool.and_false, Bool.false_or, Bool.true_or, Bool.or_true, Bool.or_false, decide_true, decide_false, oNe_int, oEq_int, oEq_str, oNe_str, at20, at21, at30, at31, at32, len2, len3, isi_tup, isi_str, le_int, gt_int, lt_int, ge_int, oMax2, oMin2, gt_iff_lt, max_if, min_if, oAdd_int, oSub_int, oNeg_int, cDc, cTupRg, dec_refl, tvYes, List.isEmpty_nil, List.isEmpty_cons]
      · have w1 : decide (0 ≤ c) = false := decide_eq_false x1
        simp only [w1, runF, List.length_cons, List.length_nil, if_true, if_false, List.map_cons, List.map_nil, List.cons_append, List.nil_append, List.replicate, sSeq, sIf, sRet, sNil, sSet, sSetN, sPar, sAsg, sFz, fz, sFor, sExpr, sRaise, sWh, rob, cOr, cAnd, cNot, cT, cTru, cB, cIf, c1, c2, cV, cVw, cK, cAndV, cOrV, cNotV, cChain, aCons, aNil, cCall, cB1, cTup, cLst, cLc, cSeqA, cRng1, cRng2, cEnum, enumO, cZip, zipO, cCut, pSome, pNo, oCut, gT, gsCons, gsNil, gN, Rs.bind, Option.bind, Option.map, ofO, cond, truD, fgt, List.foldl, List.set, lim, List.getElem?_cons_zero, List.getElem?_cons_succ, Nat.zero_add, Nat.reduceSub, Nat.reduceAdd, Nat.reduceLeDiff, Nat.reduceEqDiff, Bool.not_true, Bool.not_false, Bool.not_not, Bool.false_and, Bool.true_and, Bool.and_true, Bool.and_false, Bool.false_or, Bool.true_or, Bool.or_true, Bool.or_false, decide_true, decide_false, oNe_int, oEq_int, oEq_str, oNe_str, at20, at21, at30, at31, at32, len2, len3, isi_tup, isi_str, le_int, gt_int, lt_int, ge_int, oMax2, oMin2, gt_iff_lt, max_if, min_if, oAdd_int, oSub_int, oNeg_int, cDc, cTupRg, dec_refl, tvYes, List.isEmpty_nil, List.isEmpty_cons]
theorem b4 (p : Pl) (d : Drawn p 5) {row : List Int} (hl : row.length = 60) (a0 : Dt) (N : Int) (l : Lot) (hN : 1 ≤ N) (hN2 : N ≤ 100000) (hm : l ∈ lotsP p) :
    b_law_4 [.va a0, .va (.lst (row.map Dt.int)), .va (plD p), .va (.int N), .va (lotD l), .no, .no, .no, .no, .no, .no, .no, .no, .no, .no, .no] =
      .nx [.va a0, .va (.lst (row.map Dt.int)), .va (plD p), .va (.int N), .va (lotD l), .va (.int (endF p N l).1), .va (.int (endF p N l).2), .no, .no, .no, .no, .no, .no, .no, .no, .no] := by
  have g := d.good
  have e1 := E_ends p N l g hN hN2 hm
  have e2 := E_lawends p N l g.sized hN hN2
  rw [lawE_eq p N l g (by omega) hm] at e2
  obtain ⟨b, hb, hb2, hbe⟩ := oEq_nice (d := .tup [.int (endF p N l).1, .int (endF p N l).2]) (e := Sh.prD (endF p N l)) rfl rfl (by simp [depD, depA]) (by simp [Sh.prD, depD, depA])
  rw [hbe.mpr rfl] at hb2
  have loop := goFor_fold (tg := gN 7) (fg := [7, 8, 9, 10, 11, 12, 13, 14]) (body := b_law_3) Dt.int (fun _ : Unit => [.va a0, .va (.lst (row.map Dt.int)), .va (plD p), .va (.int N), .va (lotD l), .va (.int (endF p N l).1), .va (.int (endF p N l).2), .no, .no, .no, .no, .no, .no, .no, .no, .no]) (fun u _ => u) (fun _ => True) (rng 4) () trivial fun u t ht _ => by
    have := mem_rng.mp ht
    obtain ⟨ρ2, h1, h2⟩ := b3 p g hl a0 N t l hN hN2 hm (by omega) (by omega)
    exact ⟨trivial, _, ρ2, rfl, h1, h2⟩
  have loop := loop.1
  have r : (rng 4).map Dt.int = rngD 0 4 := (rngD_map 4).symm
  rw [r] at loop
  have i4 : inR 4 = true := by decide
  have i4' : (4 : Int).toNat = 4 := rfl
  unfold Sh.prD at e1 e2 hb2
  generalize plD p = v at *
  generalize row.map Dt.int = rw' at *
  generalize (endF p N l).1 = lo' at *
  generalize (endF p N l).2 = hi' at *
  simp only [b_law_4, e1, e2, hb2, loop, i4, i4', runF, List.length_cons, List.length_nil, if_true, if_false, List.map_cons, List.map_nil, List.cons_append, List.nil_append, List.replicate, sSeq, sIf, sRet, sNil, sSet, sSetN, sPar, sAsg, sFz, fz, sFor, sExpr, sRaise, sWh, rob, cOr, cAnd, cNot, cT, cTru, cB, cIf, c1, c2, cV, cVw, cK, cAndV, cOrV, cNotV, cChain, aCons, aNil, cCall, cB1, cTup, cLst, cLc, cSeqA, cRng1, cRng2, cEnum, enumO, cZip, zipO, cCut, pSome, pNo, oCut, gT, gsCons, gsNil, gN, Rs.bind, Option.bind, Option.map, ofO, cond, truD, fgt, List.foldl, List.set, lim, List.getElem?_cons_zero, List.getElem?_cons_succ, Nat.zero_add, Nat.reduceSub, Nat.reduceAdd, Nat.reduceLeDiff, Nat.reduceEqDiff, Bool.not_true, Bool.not_false, Bool.not_not, Bool.false_and, Bool.true_and, Bool.and_true, Bool.and_false, Bool.false_or, Bool.true_or, Bool.or_true, Bool.or_false, decide_true, decide_false, oNe_int, oEq_int, oEq_str, oNe_str, at20, at21, at30, at31, at32, len2, len3, isi_tup, isi_str, le_int, gt_int, lt_int, ge_int, oMax2, oMin2, gt_iff_lt, max_if, min_if, oAdd_int, oSub_int, oNeg_int, cDc, cTupRg, dec_refl, tvYes, List.isEmpty_nil, List.isEmpty_cons]
theorem law_true (ns : List Int) (_ : ns.length ≤ 63) : F_law [.scr ns] = .ok (.bl true) := by
  obtain ⟨row, hl, hb, e0⟩ := E_row ns 4 (by decide)
  obtain ⟨p, d, e1⟩ := E_drawn ns 2 5 (by decide) (by decide) (by decide)
  obtain ⟨N, n1, n2, e2⟩ := E_asked hl hb 0 400 (by decide) (by decide)
  have g := d.good
  have hN2 : N ≤ 100000 := by omega
  have e3 := E_lawlots p g.sized d.few
  have loop := (goFor_fold (tg := gN 4) (fg := [4, 5, 6, 7, 8, 9, 10, 11, 12, 13, 14]) (body := b_law_4) lotD (fun _ : Unit => [.va (.scr ns), .va (.lst (row.map Dt.int)), .va (plD p), .va (.int N), .no, .no, .no, .no, .no, .no, .no, .no, .no, .no, .no, .no]) (fun u _ => u) (fun _ => True) (lotsP p) () trivial fun u l hm _ =>
    ⟨trivial, _, _, rfl, b4 p d hl (.scr ns) N l n1 hN2 hm, rfl⟩).1
  have m1 := row_at' hl 10 (by decide) (by decide)
  have m2 := row_at' hl 11 (by decide) (by decide)
  have o1 := oMod_ok (i := at0 row 10) (show (0 : Int) < 6 by decide)
  have o2 := oMod_ok (i := at0 row 11) (show (0 : Int) < 4 by decide)
  obtain ⟨odd, ho, hno⟩ := odd_no p.n (at0 row 10 % 6) g.n1 g.n6 (mod_nn _ _ (by decide)) (mod_lt _ _ (by decide))
  have w1 := word_lot _ _ _ (ends_badlot p g N odd n1 hN2 hno)
  obtain ⟨od2, ho2, hp2, hw2⟩ : ∃ d, Dl.oAt (.lst [.non, .int 0, .int 100001, .bl true]) (.int (at0 row 11 % 4)) = some d ∧ plain d = true ∧ isW d 1 100000 = false := by
    have h1 := mod_nn (at0 row 11) 4 (by decide)
    have h2 := mod_lt (at0 row 11) 4 (by decide)
    have c : at0 row 11 % 4 = 0 ∨ at0 row 11 % 4 = 1 ∨ at0 row 11 % 4 = 2 ∨ at0 row 11 % 4 = 3 := by omega
    rcases c with c | c | c | c <;> rw [c] <;> exact ⟨_, rfl, rfl, rfl⟩
  have w2 := word_num _ _ _ (ends_badnum p g od2 (.tup [.int 0]) hp2 hw2)
  have q0 : Dl.oAt (plD p) (.int 0) = some (.int p.n) := rfl
  have le1 : ([Dt.non, .tup [], .tup [.int p.n], .lst [.int 0], .tup [.bl true], .tup [.int 0, .int 0]].length ≤ 16000000) := by simp
  have k1 : decide (("lot" : Str) = "lot") = true := by decide +kernel
  have k2 : decide (("number" : Str) = "number") = true := by decide +kernel
  generalize plD p = v at *
  generalize row.map Dt.int = rw' at *
  generalize (lotsP p).map lotD = lv at *
  refine run_rt (ρ := [.va (.scr ns), .no, .no, .no, .no, .no, .no, .no, .no, .no, .no, .no, .no, .no, .no, .no]) rfl rfl ?_
  simp only [g_law, e0, e1, e2, e3, loop, q0, m1, m2, o1, o2, ho, ho2, w1, w2, k1, k2, runF, List.length_cons, List.length_nil, if_true, if_false, List.map_cons, List.map_nil, List.cons_append, List.nil_append, List.replicate, sSeq, sIf, sRet, sNil, sSet, sSetN, sPar, sAsg, sFz, fz, sFor, sExpr, sRaise, sWh, rob, cOr, cAnd, cNot, cT, cTru, cB, cIf, c1, c2, cV, cVw, cK, cAndV, cOrV, cNotV, cChain, aCons, aNil, cCall, cB1, cTup, cLst, cLc, cSeqA, cRng1, cRng2, cEnum, enumO, cZip, zipO, cCut, pSome, pNo, oCut, gT, gsCons, gsNil, gN, Rs.bind, Option.bind, Option.map, ofO, cond, truD, fgt, List.foldl, List.set, lim, List.getElem?_cons_zero, List.getElem?_cons_succ, Nat.zero_add, Nat.reduceSub, Nat.reduceAdd, Nat.reduceLeDiff, Nat.reduceEqDiff, Bool.not_true, Bool.not_false, Bool.not_not, Bool.false_and, Bool.true_and, Bool.and_true, Bool.and_false, Bool.false_or, Bool.true_or, Bool.or_true, Bool.or_false, decide_true, decide_false, oNe_int, oEq_int, oEq_str, oNe_str, at20, at21, at30, at31, at32, len2, len3, isi_tup, isi_str, le_int, gt_int, lt_int, ge_int, oMax2, oMin2, gt_iff_lt, max_if, min_if, oAdd_int, oSub_int, oNeg_int, cDc, cTupRg, dec_refl, tvYes, List.isEmpty_nil, List.isEmpty_cons]
end K03
open PySem PySem.W PySem.Calls PyProof.Rows
theorem PySem.Challenge.cw_shownshares_k03_ends_of_lots_holds : PySem.Challenge.rw_shownshares_k03_ends_of_lots.Holds := by
  w_on; o_law
  refine HandSHeadRun.head_any (r := OpenLaw.row PySem.Challenge.rw_shownshares_k03_ends_of_lots) (q := view (OpenLaw.row PySem.Challenge.rw_shownshares_k03_ends_of_lots).prog [41]) (H := K03.hk) (ob := K03.ob) (M := 4000) (loose := K03.loose) (d := HandSHeadRun.topDef (OpenLaw.row PySem.Challenge.rw_shownshares_k03_ends_of_lots).prog 41) (kwd := [])
    K03.ob_eq (by kernel_rfl) (fun s => by kernel_rfl) K03.run (by kernel_rfl) (by kernel_rfl) (by kernel_rfl) (by rfl) (by decide +kernel) (by decide +kernel) ⟨rfl, rfl, rfl, rfl, rfl, by decide +kernel⟩ ?hw ?hc
  case hw => w_witness2
  case hc =>
    refine Dl.walk_law (l := PySem.Challenge.rw_shownshares_k03_ends_of_lots) (n := "law") (x := "_law_script") (st := K03.s_law) (k := 9) (F := K03.F_law) (tl := "all_lots") rfl (by kernel_rfl) ⟨rfl, by decide, by decide⟩ (by kernel_rfl) ?F K03.law_true
    rintro w mg h ⟨K, KX, c, tb⟩ G
    exact ⟨K, KX, tb "all_lots" (List.mem_singleton.mpr rfl), (K03.facts0 KX G c).d_law, fun base k P ht TB => K03.ok_law (K03.facts KX G c ht TB)⟩
