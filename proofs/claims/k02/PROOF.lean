import PyProof.Rows.All
import Wide.All
import OpenK.AllK
import Wide.FinOn
import HandS.ForMost
import HandS.ForExc
import HandS.IsInst
import HandS.Deep
import HandS.Flow
import HandS.TupAny
import HandS.TupMul
import HandS.Zip
import HandS.ExcIs
import HandS.TryMany
import HandS.Head0
import HandS.Head1
import HandS.Head2
import HandS.HeadEnd
import HandS.HeadHook1
import HandS.HeadHook2
import HandS.HeadNt
import HandS.Defaults
import PySem.Challenge.RW_shownshares_k02_shares
set_option Elab.async false
set_option linter.all false
set_option autoImplicit false
set_option maxRecDepth 100000
set_option maxHeartbeats 8000000
/-! Data in place of heaps. A value of the program stands for a datum Dt; a frame's slots stand for data, too (Sl); an owned slot holds a list or dict that nothing else reaches. -/
namespace Dl
open PySem L2

/-- what may come: stuck (nothing is claimed), a thing, an exception of the class of that name -/
inductive Rs (α : Type) where
  | st | ok (a : α) | ex (n : Str)
@[simp] def Rs.bind {α β : Type} (r : Rs α) (f : α → Rs β) : Rs β := match r with
  | .st => .st
  | .ok a => f a
  | .ex n => .ex n
@[simp] def ofO {α : Type} (o : Option α) : Rs α := match o with
  | none => .st
  | some a => .ok a

inductive Dt where
  | non | bl (b : Bool) | int (i : Int) | str (x : Str)
  | lst (xs : List Dt) | tup (xs : List Dt) | dct (kvs : List (List Key × Dt)) | obj (c : Str) (fs : List (Str × Dt))
  /-- a list of ints that is read, never written: the script -/
  | scr (ns : List Int)

section
variable (K : PySem.W.Frag) (cl : Str → Addr)
mutual
/-- v is the datum d, all its parts stand in E -/
inductive Dn (E : Hp) : V → Dt → Prop
  | non : Dn E .non .non
  | bl (b : Bool) : Dn E (.bl b) (.bl b)
  | int (i : Int) : Dn E (.int i) (.int i)
  | str (x : Str) : Dn E (.str x) (.str x)
  | lst {a : Addr} {vs : List V} {ds : List Dt} (h : E a = some (.lst vs)) (r : DnA E vs ds) : Dn E (.ref a) (.lst ds)
  | scr {a : Addr} {ns : List Int} (h : SqL K E a (ns.map V.int)) : Dn E (.ref a) (.scr ns)
  | tup {a : Addr} {vs : List V} {ds : List Dt} (h : SqT K E a vs) (r : DnA E vs ds) : Dn E (.ref a) (.tup ds)
  | dct {a : Addr} {kvs : List (List Key × V)} {ds : List (List Key × Dt)} (h : E a = some (.dT kvs)) (r : DnD E kvs ds) : Dn E (.ref a) (.dct ds)
  | obj {a dx : Addr} {c : Str} {fs : List (Str × V)} {ds : List (Str × Dt)} (h : E a = some (.ins (cl c) dx fs)) (r : DnF E fs ds) : Dn E (.ref a) (.obj c ds)
inductive DnA (E : Hp) : List V → List Dt → Prop
  | nil : DnA E [] []
  | cons {v : V} {vs : List V} {d : Dt} {ds : List Dt} (h : Dn E v d) (r : DnA E vs ds) : DnA E (v :: vs) (d :: ds)
inductive DnD (E : Hp) : List (List Key × V) → List (List Key × Dt) → Prop
  | nil : DnD E [] []
  | cons {k : List Key} {v : V} {vs : List (List Key × V)} {d : Dt} {ds : List (List Key × Dt)} (h : Dn E v d) (r : DnD E vs ds) : DnD E ((k, v) :: vs) ((k, d) :: ds)
inductive DnF (E : Hp) : List (Str × V) → List (Str × Dt) → Prop
  | nil : DnF E [] []
  | cons {k : Str} {v : V} {vs : List (Str × V)} {d : Dt} {ds : List (Str × Dt)} (h : Dn E v d) (r : DnF E vs ds) : DnF E ((k, v) :: vs) ((k, d) :: ds)
end
end

mutual
/-- as data of the library; no dict, no object -/
def toPy : Dt → Option PyData
  | .non => some .none
  | .bl b => some (.bool b)
  | .int i => some (.int i)
  | .str x => some (.str x)
  | .lst xs => (toPyA xs).map .list
  | .tup xs => (toPyA xs).map .tuple
  | .dct _ => none
  | .obj _ _ => none
  | .scr _ => none
def toPyA : List Dt → Option (List PyData)
  | [] => some []
  | x :: xs => match toPy x, toPyA xs with
    | some d, some ds => some (d :: ds)
    | _, _ => none
end
mutual
/-- nothing in it can be changed -/
def imm : Dt → Bool
  | .tup xs => immA xs
  | .lst _ | .dct _ | .obj _ _ | .scr _ => false
  | _ => true
def immA : List Dt → Bool
  | [] => true
  | x :: xs => imm x && immA xs
end

section
variable {K : PySem.W.Frag} {cl : Str → Addr}
def Sub (E H : Hp) : Prop := ∀ a o, E a = some o → H a = some o
theorem Sub.refl (H : Hp) : Sub H H := fun _ _ h => h
theorem Sub.trans {E H G : Hp} (a : Sub E H) (b : Sub H G) : Sub E G := fun x o h => b x o (a x o h)
theorem Sub.rd {E H : Hp} (s : Sub E H) {a : Addr} {u : HO} (h : Rd E a u) : Rd H a u := by
  rcases h with h | ⟨o, h⟩
  · exact .inl (s _ _ h)
  · exact .inr ⟨o, s _ _ h⟩
theorem Sub.sqL {E H : Hp} (s : Sub E H) {a : Addr} {xs : List V} (h : SqL K E a xs) : SqL K H a xs := by
  rcases h with h | h
  · exact .inl (s.rd h)
  · exact .inr h
theorem Sub.sqT {E H : Hp} (s : Sub E H) {a : Addr} {xs : List V} (h : SqT K E a xs) : SqT K H a xs := by
  rcases h with h | h
  · exact .inl (s.rd h)
  · exact .inr h
mutual
theorem Dn.mono {E H : Hp} (s : Sub E H) : ∀ {d : Dt} {v : V}, Dn K cl E v d → Dn K cl H v d
  | .non, _, h => by cases h; exact .non
  | .bl _, _, h => by cases h; exact .bl _
  | .int _, _, h => by cases h; exact .int _
  | .str _, _, h => by cases h; exact .str _
  | .lst ds, _, h => by
    cases h with
    | lst h r => exact .lst (s _ _ h) (DnA.mono s r)
  | .tup ds, _, h => by
    cases h with
    | tup h r => exact .tup (s.sqT h) (DnA.mono s r)
  | .dct ds, _, h => by
    cases h with
    | dct h r => exact .dct (s _ _ h) (DnD.mono s r)
  | .obj c ds, _, h => by
    cases h with
    | obj h r => exact .obj (s _ _ h) (DnF.mono s r)
  | .scr ns, _, h => by
    cases h with
    | scr h => exact .scr (s.sqL h)
theorem DnA.mono {E H : Hp} (s : Sub E H) : ∀ {ds : List Dt} {vs : List V}, DnA K cl E vs ds → DnA K cl H vs ds
  | [], _, h => by cases h; exact .nil
  | d :: ds, _, h => by
    cases h with
    | cons h r => exact .cons (Dn.mono s h) (DnA.mono s r)
theorem DnD.mono {E H : Hp} (s : Sub E H) : ∀ {ds : List (List Key × Dt)} {vs : List (List Key × V)}, DnD K cl E vs ds → DnD K cl H vs ds
  | [], _, h => by cases h; exact .nil
  | (k, d) :: ds, _, h => by
    cases h with
    | cons h r => exact .cons (Dn.mono s h) (DnD.mono s r)
theorem DnF.mono {E H : Hp} (s : Sub E H) : ∀ {ds : List (Str × Dt)} {vs : List (Str × V)}, DnF K cl E vs ds → DnF K cl H vs ds
  | [], _, h => by cases h; exact .nil
  | (k, d) :: ds, _, h => by
    cases h with
    | cons h r => exact .cons (Dn.mono s h) (DnF.mono s r)
end
theorem DnA.length {E : Hp} : ∀ {ds : List Dt} {vs : List V}, DnA K cl E vs ds → vs.length = ds.length
  | [], _, h => by cases h; rfl
  | d :: ds, _, h => by
    cases h with
    | cons h r => simp [DnA.length r]
theorem DnD.length {E : Hp} : ∀ {ds : List (List Key × Dt)} {vs : List (List Key × V)}, DnD K cl E vs ds → vs.length = ds.length
  | [], _, h => by cases h; rfl
  | d :: ds, _, h => by
    cases h with
    | cons h r => simp [DnD.length r]
theorem DnA.get {E : Hp} : ∀ {ds : List Dt} {vs : List V} {i : Nat} {d : Dt}, DnA K cl E vs ds → ds[i]? = some d → ∃ v, vs[i]? = some v ∧ Dn K cl E v d
  | [], _, i, d, h, e => by simp at e
  | d :: ds, _, 0, _, h, e => by
    cases h with
    | cons h r => simp at e; subst e; exact ⟨_, rfl, h⟩
  | d :: ds, _, i + 1, _, h, e => by
    cases h with
    | cons h r =>
      obtain ⟨v, h1, h2⟩ := DnA.get (i := i) r (by simpa using e)
      exact ⟨v, by simpa using h1, h2⟩
theorem DnA.getV {E : Hp} : ∀ {ds : List Dt} {vs : List V} {i : Nat} {v : V}, DnA K cl E vs ds → vs[i]? = some v → ∃ d, ds[i]? = some d ∧ Dn K cl E v d := fun {ds vs i v} h e => by
  have hl := h.length
  have hi : i < ds.length := by rw [← hl]; exact (List.getElem?_eq_some_iff.mp e).1
  obtain ⟨v', h1, h2⟩ := h.get (List.getElem?_eq_getElem hi)
  rw [e] at h1; cases h1
  exact ⟨_, List.getElem?_eq_getElem hi, h2⟩
theorem DnA.append {E : Hp} : ∀ {ds es : List Dt} {vs ws : List V}, DnA K cl E vs ds → DnA K cl E ws es → DnA K cl E (vs ++ ws) (ds ++ es)
  | [], _, _, _, h, g => by cases h; exact g
  | d :: ds, _, _, _, h, g => by
    cases h with
    | cons h r => exact .cons h (DnA.append r g)
theorem DnA.take {E : Hp} : ∀ {ds : List Dt} {vs : List V} (n : Nat), DnA K cl E vs ds → DnA K cl E (vs.take n) (ds.take n)
  | _, _, 0, _ => .nil
  | [], _, n + 1, h => by cases h; exact .nil
  | d :: ds, _, n + 1, h => by
    cases h with
    | cons h r => exact .cons h (DnA.take n r)
theorem DnA.drop {E : Hp} : ∀ {ds : List Dt} {vs : List V} (n : Nat), DnA K cl E vs ds → DnA K cl E (vs.drop n) (ds.drop n)
  | _, _, 0, h => h
  | [], _, n + 1, h => by cases h; exact .nil
  | d :: ds, _, n + 1, h => by
    cases h with
    | cons h r => exact DnA.drop n r
theorem DnA.set {E : Hp} {v : V} {d : Dt} (g : Dn K cl E v d) : ∀ {ds : List Dt} {vs : List V} (i : Nat), DnA K cl E vs ds → DnA K cl E (vs.set i v) (ds.set i d)
  | [], _, i, h => by cases h; exact .nil
  | e :: ds, _, 0, h => by
    cases h with
    | cons h r => exact .cons g r
  | e :: ds, _, i + 1, h => by
    cases h with
    | cons h r => exact .cons h (DnA.set g i r)
theorem DnA.one {E : Hp} {v : V} {d : Dt} (h : Dn K cl E v d) : DnA K cl E [v] [d] := .cons h .nil
theorem DnA.ints {E : Hp} : ∀ {ns : List Int} {vs : List V}, DnA K cl E vs (ns.map Dt.int) → vs = ns.map V.int
  | [], _, h => by cases h; rfl
  | n :: ns, _, h => by
    cases h with
    | cons h r => cases h; rw [DnA.ints r]; rfl
theorem DnA.of_ints {E : Hp} : ∀ (ns : List Int), DnA K cl E (ns.map V.int) (ns.map Dt.int)
  | [] => .nil
  | n :: ns => .cons (.int n) (DnA.of_ints ns)
theorem Dn.int_iff {E : Hp} {v : V} {i : Int} : Dn K cl E v (.int i) ↔ v = .int i := ⟨fun h => by cases h; rfl, fun h => h ▸ .int i⟩
mutual
theorem Dn.dp {E : Hp} : ∀ {d : Dt} {v : V} {p : PyData}, Dn K cl E v d → toPy d = some p → Dp K E v p
  | .non, _, _, h, e => by cases h; cases e; exact .non
  | .bl _, _, _, h, e => by cases h; cases e; exact .bl _
  | .int _, _, _, h, e => by cases h; cases e; exact .int _
  | .str _, _, _, h, e => by cases h; cases e; exact .str _
  | .lst ds, _, p, h, e => by
    cases h with
    | lst h r =>
      unfold toPy at e
      cases q : toPyA ds with
      | none => rw [q] at e; cases e
      | some ps => rw [q] at e; cases e; exact .lst (SqL.of h) (DnA.dp r q)
  | .tup ds, _, p, h, e => by
    cases h with
    | tup h r =>
      unfold toPy at e
      cases q : toPyA ds with
      | none => rw [q] at e; cases e
      | some ps => rw [q] at e; cases e; exact .tup h (DnA.dp r q)
  | .dct _, _, _, _, e => by cases e
  | .obj _ _, _, _, _, e => by cases e
  | .scr _, _, _, _, e => by cases e
theorem DnA.dp {E : Hp} : ∀ {ds : List Dt} {vs : List V} {ps : List PyData}, DnA K cl E vs ds → toPyA ds = some ps → DpAll K E vs ps
  | [], _, _, h, e => by cases h; cases e; exact .nil
  | d :: ds, _, ps, h, e => by
    cases h with
    | cons h r =>
      unfold toPyA at e
      cases q : toPy d with
      | none => rw [q] at e; cases e
      | some p =>
        cases q2 : toPyA ds with
        | none => rw [q, q2] at e; cases e
        | some ps' => rw [q, q2] at e; cases e; exact .cons (Dn.dp h q) (DnA.dp r q2)
end
end

/-- never changed -/
def Imm : HO → Prop
  | .tup _ => True
  | .frz _ _ => True
  | _ => False

section
variable {K : PySem.W.Frag} {cl : Str → Addr}
mutual
/-- a datum that can't change stands in whatever has the tuples -/
theorem Dn.imm {E H : Hp} (s : ∀ a o, E a = some o → Imm o → H a = some o) : ∀ {d : Dt} {v : V}, Dn K cl E v d → imm d = true → Dn K cl H v d
  | .non, _, h, _ => by cases h; exact .non
  | .bl _, _, h, _ => by cases h; exact .bl _
  | .int _, _, h, _ => by cases h; exact .int _
  | .str _, _, h, _ => by cases h; exact .str _
  | .lst ds, _, h, e => by cases e
  | .tup ds, _, h, e => by
    cases h with
    | tup h r =>
      refine .tup ?_ (DnA.imm s r e)
      rcases h with (h | ⟨o, h⟩) | h
      · exact .inl (.inl (s _ _ h trivial))
      · exact .inl (.inr ⟨o, s _ _ h trivial⟩)
      · exact .inr h
  | .dct ds, _, h, e => by cases e
  | .obj c ds, _, h, e => by cases e
  | .scr _, _, h, e => by cases e
theorem DnA.imm {E H : Hp} (s : ∀ a o, E a = some o → Imm o → H a = some o) : ∀ {ds : List Dt} {vs : List V}, DnA K cl E vs ds → immA ds = true → DnA K cl H vs ds
  | [], _, h, _ => by cases h; exact .nil
  | d :: ds, _, h, e => by
    cases h with
    | cons h r =>
      unfold immA at e
      rw [Bool.and_eq_true] at e
      exact .cons (Dn.imm s h e.1) (DnA.imm s r e.2)
end
end

/-! ### the part E of the heap H that isn't changed any more -/
structure Sb (E H : Hp) : Prop where
  sub : Sub E H
  im : ∀ a o, H a = some o → Imm o → E a = some o
theorem Sb.refl (H : Hp) : Sb H H := ⟨Sub.refl H, fun _ _ h _ => h⟩
/-- both grow -/
structure Gr (E H E' H' : Hp) : Prop where
  ee : Sub E E'
  hh : Sub H H'
  eh : Sub E' H'
  nw : ∀ a, H a ≠ none → E a = none → E' a = none
  im : ∀ a o, H a = none → H' a = some o → Imm o → E' a = some o
theorem Gr.refl {E H : Hp} (s : Sub E H) : Gr E H E H := ⟨Sub.refl _, Sub.refl _, s, fun _ _ h => h, fun a o h1 h2 _ => by rw [h1] at h2; cases h2⟩
theorem Gr.trans {E H E1 H1 E2 H2 : Hp} (a : Gr E H E1 H1) (b : Gr E1 H1 E2 H2) : Gr E H E2 H2 where
  ee := a.ee.trans b.ee
  hh := a.hh.trans b.hh
  eh := b.eh
  nw := fun x h1 h2 => by
    refine b.nw x ?_ (a.nw x h1 h2)
    cases q : H x with
    | none => exact absurd q h1
    | some o => rw [a.hh x o q]; simp
  im := fun x o h1 h2 h3 => by
    cases q : H1 x with
    | none => exact b.im x o q h2 h3
    | some u =>
      have := b.hh x u q
      rw [h2] at this; cases this
      exact b.ee x _ (a.im x _ h1 q h3)
theorem Gr.sb {E H E' H' : Hp} (g : Gr E H E' H') (s : Sb E H) : Sb E' H' := ⟨g.eh, fun a o h1 h2 => by
  cases q : H a with
  | none => exact g.im a o q h1 h2
  | some u =>
    have := g.hh a u q
    rw [h1] at this; cases this
    exact g.ee a _ (s.im a _ q h2)⟩
theorem Gr.fresh {E H E' H' : Hp} (g : Gr E H E' H') {a : Addr} (h : H' a = none) : H a = none := by
  cases q : H a with
  | none => rfl
  | some o => rw [g.hh a o q] at h; cases h
theorem Sub.fresh {E H : Hp} (s : Sub E H) {a : Addr} (h : H a = none) : E a = none := by
  cases q : E a with
  | none => rfl
  | some o => rw [s a o q] at h; cases h
theorem Sub.up {H : Hp} {p : Addr} {o : HO} (h : H p = none) : Sub H (upd H p o) := fun a u e => by
  rw [upd_ne (ne_of_none e h)]; exact e
theorem Sub.up2 {E H : Hp} {p : Addr} {o : HO} (s : Sub E H) : Sub (upd E p o) (upd H p o) := fun a u e => by
  by_cases q : a = p
  · subst q; rw [upd_same] at e ⊢; exact e
  · rw [upd_ne q] at e ⊢; exact s a u e
/-- a new object that stands in both -/
theorem Gr.both {E H : Hp} {p : Addr} {o : HO} (s : Sub E H) (h : H p = none) : Gr E H (upd E p o) (upd H p o) where
  ee := Sub.up (s.fresh h)
  hh := Sub.up h
  eh := s.up2
  nw := fun a h1 h2 => by
    have : a ≠ p := fun e => by rw [e] at h1; exact h1 h
    rw [upd_ne this]; exact h2
  im := fun a u h1 h2 h3 => by
    by_cases q : a = p
    · subst q; rw [upd_same] at h2 ⊢; exact h2
    · rw [upd_ne q] at h2; rw [h1] at h2; cases h2
/-- a new one that may change yet -/
theorem Gr.one {E H : Hp} {p : Addr} {o : HO} (s : Sub E H) (h : H p = none) (n : ¬ Imm o) : Gr E H E (upd H p o) where
  ee := Sub.refl _
  hh := Sub.up h
  eh := s.trans (Sub.up h)
  nw := fun a h1 h2 => h2
  im := fun a u h1 h2 h3 => by
    by_cases q : a = p
    · subst q; rw [upd_same] at h2; cases h2; exact absurd h3 n
    · rw [upd_ne q] at h2; rw [h1] at h2; cases h2
/-- new ones that may change no more -/
theorem Gr.fix {E H E' H' : Hp} {p : Addr} {o : HO} (g : Gr E H E' H') (h : H p = none) (h' : H' p = some o) (n : E' p = none) : Gr E H (upd E' p o) H' where
  ee := g.ee.trans (Sub.up n)
  hh := g.hh
  eh := fun a u e => by
    by_cases q : a = p
    · subst q; rw [upd_same] at e; rw [h', e]
    · rw [upd_ne q] at e; exact g.eh a u e
  nw := fun a h1 h2 => by
    have : a ≠ p := fun e => by rw [e] at h1; exact h1 h
    rw [upd_ne this]; exact g.nw a h1 h2
  im := fun a u h1 h2 h3 => by
    by_cases q : a = p
    · subst q; rw [upd_same, ← h', h2]
    · rw [upd_ne q]; exact g.im a u h1 h2 h3
/-- a callee that took the whole heap for unchanging -/
def back (E H E' : Hp) : Hp := fun a => match H a with
  | none => E' a
  | some _ => E a
theorem Gr.back {E H E' H' : Hp} (s : Sb E H) (g : Gr H H E' H') : Gr E H (back E H E') H' where
  ee := fun a o e => by unfold Dl.back; rw [s.sub a o e]; exact e
  hh := g.hh
  eh := fun a o e => by
    unfold Dl.back at e
    cases q : H a with
    | none => rw [q] at e; exact g.eh a o e
    | some u => rw [q] at e; exact g.hh a o (s.sub a o e)
  nw := fun a h1 h2 => by
    unfold Dl.back
    cases q : H a with
    | none => exact absurd q h1
    | some u => exact h2
  im := fun a o h1 h2 h3 => by
    unfold Dl.back; rw [h1]; exact g.im a o h1 h2 h3
theorem back_imm {K : PySem.W.Frag} {cl : Str → Addr} {E H E' H' : Hp} (s : Sb E H) (g : Gr H H E' H') {v : V} {d : Dt} (h : Dn K cl E' v d) (i : imm d = true) : Dn K cl (back E H E') v d :=
  h.imm (fun a o e io => by
    unfold Dl.back
    cases q : H a with
    | none => exact e
    | some u =>
      have := g.ee a u q
      rw [e] at this; cases this
      exact s.im a _ q io) i

/-! ### slots -/
inductive Sl where
  | no | va (d : Dt) | ow (d : Dt)
section
variable (K : PySem.W.Frag) (cl : Str → Addr)
/-- the list, dict or object at a, its parts unchanging -/
def Ow (E H : Hp) (a : Addr) : Dt → Prop
  | .lst ds => ∃ vs, H a = some (.lst vs) ∧ DnA K cl E vs ds
  | .dct ds => ∃ kvs, H a = some (.dT kvs) ∧ DnD K cl E kvs ds
  | .obj c ds => ∃ dx fs, H a = some (.ins (cl c) dx fs) ∧ DnF K cl E fs ds
  | _ => False
/-- an unchanging one, or an owned one -/
def Wk (E H : Hp) (v : V) (d : Dt) : Prop := Dn K cl E v d ∨ ∃ a, v = .ref a ∧ E a = none ∧ Ow K cl E H a d
/-- a new one -/
def Nw (H E' H' : Hp) (v : V) (d : Dt) : Prop := ∃ a, v = .ref a ∧ H a = none ∧ E' a = none ∧ Ow K cl E' H' a d
structure Rl (E0 H0 E H : Hp) (σ : L2.St) (ρ : List Sl) : Prop where
  sb0 : Sb E0 H0
  gr : Gr E0 H0 E H
  len : ρ.length = σ.length
  va : ∀ (i : Nat) d, ρ[i]? = some (.va d) → ∃ v, σ[i]? = some (some v) ∧ Dn K cl E v d
  ow : ∀ (i : Nat) d, ρ[i]? = some (.ow d) → ∃ a, σ[i]? = some (some (.ref a)) ∧ H0 a = none ∧ E a = none ∧ Ow K cl E H a d
  ne : ∀ (i j : Nat) d e a, i ≠ j → ρ[i]? = some (.ow d) → ρ[j]? = some (.ow e) → σ[i]? = some (some (.ref a)) → σ[j]? ≠ some (some (.ref a))
end
section
variable {K : PySem.W.Frag} {cl : Str → Addr} {E0 H0 E H E' H' : Hp} {σ : L2.St} {ρ : List Sl} {a : Addr} {v : V} {d : Dt}
theorem Rl.sb (r : Rl K cl E0 H0 E H σ ρ) : Sb E H := r.gr.sb r.sb0
theorem Ow.mono (h : Ow K cl E H a d) (e : Sub E E') (k : Sub H H') : Ow K cl E' H' a d := by
  cases d with
  | lst ds => obtain ⟨vs, h1, h2⟩ := h; exact ⟨vs, k _ _ h1, h2.mono e⟩
  | dct ds => obtain ⟨vs, h1, h2⟩ := h; exact ⟨vs, k _ _ h1, h2.mono e⟩
  | obj c ds => obtain ⟨dx, vs, h1, h2⟩ := h; exact ⟨dx, vs, k _ _ h1, h2.mono e⟩
  | _ => exact h.elim
theorem Ow.there (h : Ow K cl E H a d) : ∃ o, H a = some o ∧ ¬ Imm o := by
  cases d with
  | lst ds => obtain ⟨vs, h1, h2⟩ := h; exact ⟨_, h1, fun z => z⟩
  | dct ds => obtain ⟨vs, h1, h2⟩ := h; exact ⟨_, h1, fun z => z⟩
  | obj c ds => obtain ⟨dx, vs, h1, h2⟩ := h; exact ⟨_, h1, fun z => z⟩
  | _ => exact h.elim
/-- .. read off where it stands -/
theorem Ow.dn {G : Hp} (h : Ow K cl E H a d) (e : Sub E G) (k : ∀ o, H a = some o → G a = some o) : Dn K cl G (.ref a) d := by
  cases d with
  | lst ds => obtain ⟨vs, h1, h2⟩ := h; exact .lst (k _ h1) (h2.mono e)
  | dct ds => obtain ⟨vs, h1, h2⟩ := h; exact .dct (k _ h1) (h2.mono e)
  | obj c ds => obtain ⟨dx, vs, h1, h2⟩ := h; exact .obj (k _ h1) (h2.mono e)
  | _ => exact h.elim
theorem Wk.full (h : Wk K cl E H v d) (s : Sub E H) : Dn K cl H v d := by
  rcases h with h | ⟨a, rfl, _, h⟩
  · exact h.mono s
  · exact h.dn s fun _ q => q
theorem Gr.nw' (g : Gr E H E' H') (h : ∃ o, H a = some o) (n : E a = none) : E' a = none := by
  obtain ⟨o, h⟩ := h
  exact g.nw a (by rw [h]; simp) n
theorem Wk.mono (h : Wk K cl E H v d) (g : Gr E H E' H') : Wk K cl E' H' v d := by
  rcases h with h | ⟨a, rfl, n, h⟩
  · exact .inl (h.mono g.ee)
  · obtain ⟨o, ho, _⟩ := h.there
    exact .inr ⟨a, rfl, g.nw' ⟨o, ho⟩ n, h.mono g.ee g.hh⟩
theorem Rl.grow (r : Rl K cl E0 H0 E H σ ρ) (g : Gr E H E' H') : Rl K cl E0 H0 E' H' σ ρ where
  sb0 := r.sb0
  gr := r.gr.trans g
  len := r.len
  va := fun i d h => let ⟨v, h1, h2⟩ := r.va i d h; ⟨v, h1, h2.mono g.ee⟩
  ow := fun i d h => by
    obtain ⟨a, h1, h2, h3, h4⟩ := r.ow i d h
    obtain ⟨o, ho, _⟩ := h4.there
    exact ⟨a, h1, h2, g.nw' ⟨o, ho⟩ h3, h4.mono g.ee g.hh⟩
  ne := r.ne
theorem DnA.wk : ∀ {ds : List Dt} {vs : List V}, DnA K cl E vs ds → Paired (Wk K cl E H) vs ds
  | [], _, h => by cases h; exact .nil
  | d :: ds, _, h => by
    cases h with
    | cons h r => exact .cons (.inl h) (DnA.wk r)
end
end Dl
namespace Dl
open PySem L2

abbrev Ev := List Sl → Rs Dt
abbrev Tv := List Sl → Rs Bool
abbrev Av := List Sl → Rs (List Dt)
/-- what a statement comes to -/
inductive Ro where
  | st | nx (ρ : List Sl) | bk (ρ : List Sl) | ct (ρ : List Sl) | rt (d : Dt) | ex (n : Str) (ρ : List Sl)
abbrev Sv := List Sl → Ro
abbrev Rel := Hp → Hp → V → Dt → Prop
abbrev Rl4 := Hp → Hp → Hp → Hp → V → Dt → Prop

section
variable (K : PySem.W.Frag) (cl : Str → Addr)
/-- the answer r at (E, H) with what follows k -/
def An {α : Type} (W : L2.WX) (σ : L2.St) (E H : Hp) (r : Rs α) (k : α → Prop) : Prop := match r with
  | .st => False
  | .ok a => k a
  | .ex n => ∀ E' H', Gr E H E' H' → W (.ref (cl n)) none σ H'
def tG (W : L2.WX) (S : Rl4) (f : Ev) : TE := fun σ H Q => ∃ E0 H0 E ρ, Rl K cl E0 H0 E H σ ρ ∧ An cl W σ E H (f ρ) fun d => ∀ v E' H', Gr E H E' H' → S E H E' H' v d → Q v H'
abbrev tR (W : L2.WX) (R : Rel) (f : Ev) : TE := tG K cl W (fun _ _ E' H' v d => R E' H' v d) f
abbrev tD (W : L2.WX) (f : Ev) : TE := tR K cl W (fun E' _ v d => Dn K cl E' v d) f
abbrev tW (W : L2.WX) (f : Ev) : TE := tR K cl W (Wk K cl) f
abbrev tN (W : L2.WX) (f : Ev) : TE := tG K cl W (fun _ H E' H' v d => Nw K cl H E' H' v d) f
def tT (W : L2.WX) (t : Tv) : TT := fun σ H Q => ∃ E0 H0 E ρ, Rl K cl E0 H0 E H σ ρ ∧ An cl W σ E H (t ρ) fun b => ∀ E' H', Gr E H E' H' → Q b H'
def tA (W : L2.WX) (R : Rel) (f : Av) : TA := fun σ H Q => ∃ E0 H0 E ρ, Rl K cl E0 H0 E H σ ρ ∧ An cl W σ E H (f ρ) fun ds => ∀ vs E' H', Gr E H E' H' → Paired (R E' H') vs ds → Q vs H'
def Ros (W : L2.WX) (D : Ends) (E0 H0 E : Hp) : Ro → Prop
  | .st => False
  | .nx ρ' => ∀ σ' E' H', Rl K cl E0 H0 E' H' σ' ρ' → Sub E E' → D.nx σ' H'
  | .bk ρ' => ∀ σ' E' H', Rl K cl E0 H0 E' H' σ' ρ' → Sub E E' → D.bk σ' H'
  | .ct ρ' => ∀ σ' E' H', Rl K cl E0 H0 E' H' σ' ρ' → Sub E E' → D.ct σ' H'
  | .rt d => ∀ v E' H', Gr E0 H0 E' H' → Dn K cl E' v d → D.rt v H'
  | .ex n ρ' => ∀ σ' E' H', Rl K cl E0 H0 E' H' σ' ρ' → Sub E E' → W (.ref (cl n)) none σ' H'
def tS (W : L2.WX) (g : Sv) : TS := fun D σ H => ∃ E0 H0 E ρ, Rl K cl E0 H0 E H σ ρ ∧ Ros K cl W D E0 H0 E (g ρ)
/-- a relation that stays as both heaps grow -/
def Mo (R : Rel) : Prop := ∀ E H E' H' v d, R E H v d → Gr E H E' H' → R E' H' v d
def Co (S : Rl4) : Prop := ∀ E H E1 H1 E' H' v d, Gr E H E1 H1 → S E1 H1 E' H' v d → S E H E' H' v d
end

section
variable {K : PySem.W.Frag} {cl : Str → Addr} {X : Cx} {W : L2.WX} {R R1 R2' : Rel} {S : Rl4}
theorem moD : Mo (fun E _ v d => Dn K cl E v d) := fun _ _ _ _ _ _ h g => h.mono g.ee
theorem moW : Mo (Wk K cl) := fun _ _ _ _ _ _ h g => h.mono g
theorem coR : Co (fun _ _ E' H' v d => R E' H' v d) := fun _ _ _ _ _ _ _ _ _ h => h
theorem coN : Co (fun _ H E' H' v d => Nw K cl H E' H' v d) := fun _ _ _ _ _ _ _ _ g ⟨a, h1, h2, h3⟩ => ⟨a, h1, g.fresh h2, h3⟩
theorem An.bind {α β : Type} {σ : L2.St} {E H : Hp} {r : Rs α} {f : α → Rs β} {k : β → Prop} (h : An cl W σ E H (r.bind f) k) : An cl W σ E H r fun a => An cl W σ E H (f a) k := by
  cases r with
  | st => exact h
  | ok a => exact h
  | ex n => exact h
theorem An.grow {α : Type} {σ : L2.St} {E H E1 H1 : Hp} {r : Rs α} {k k' : α → Prop} (h : An cl W σ E H r k) (g : Gr E H E1 H1) (i : ∀ a, k a → k' a) : An cl W σ E1 H1 r k' := by
  cases r with
  | st => exact h
  | ok a => exact i a h
  | ex n => exact fun E' H' g' => h E' H' (g.trans g')
theorem An.imp {α : Type} {σ : L2.St} {E H : Hp} {r : Rs α} {k k' : α → Prop} (h : An cl W σ E H r k) (i : ∀ a, k a → k' a) : An cl W σ E H r k' := by
  cases r with
  | st => exact h
  | ok a => exact i a h
  | ex n => exact h
theorem An.ofO {α : Type} {σ : L2.St} {E H : Hp} {o : Option α} {k : α → Prop} (h : An cl W σ E H (ofO o) k) : ∃ a, o = some a ∧ k a := by
  cases o with
  | none => exact h.elim
  | some a => exact ⟨a, rfl, h⟩
theorem PE.imp {e : Expr} {t t' : TE} (h : PE X e t) (i : ∀ σ H Q, t' σ H Q → t σ H Q) : PE X e t' := ⟨fun pins s σ H Q I q => h.run pins s σ H Q I (i σ H Q q)⟩
theorem PT.imp {e : Expr} {t t' : TT} (h : PT X e t) (i : ∀ σ H Q, t' σ H Q → t σ H Q) : PT X e t' := ⟨fun pins s σ H Q I q => h.run pins s σ H Q I (i σ H Q q)⟩
theorem PW.imp {e : Expr} {t t' : TT} (h : PW X e t) (i : ∀ σ H Q, t' σ H Q → t σ H Q) : PW X e t' := ⟨fun wh pins s σ H Q I q => h.run wh pins s σ H Q I (i σ H Q q)⟩
theorem PA.imp {e : List Expr} {t t' : TA} (h : PA X e t) (i : ∀ σ H Q, t' σ H Q → t σ H Q) : PA X e t' := ⟨fun p pins s σ H Q I q => h.run p pins s σ H Q I (i σ H Q q)⟩
theorem PS.imp {e : Stmt} {t t' : TS} (h : PS X e t) (i : ∀ D σ H, t' D σ H → t D σ H) : PS X e t' := ⟨fun pins s σ H D I q => h.run pins s σ H D I (i D σ H q)⟩
theorem PSs.imp {e : List Stmt} {t t' : TS} (h : PSs X e t) (i : ∀ D σ H, t' D σ H → t D σ H) : PSs X e t' := ⟨fun pins s σ H D I q => h.run pins s σ H D I (i D σ H q)⟩
theorem PI.imp {tg e : Expr} {t t' : TI} (h : PI X tg e t) (i : ∀ σ H Q, t' σ H Q → t σ H Q) : PI X tg e t' := ⟨fun pins s σ H Q I q => h.run pins s σ H Q I (i σ H Q q)⟩
theorem PG.imp {e : Expr} {t t' : TG} (h : PG X e t) (i : ∀ v σ H Q, t' v σ H Q → t v σ H Q) : PG X e t' := ⟨fun pins s σ H v u Q I r q => h.run pins s σ H v u Q I r (i v σ H Q q)⟩

/-! ### turning one kind of reading into another -/
theorem d_w {e : Expr} {f : Ev} (h : PE X e (tD K cl W f)) : PE X e (tW K cl W f) := PE.imp h fun σ H Q ⟨E0, H0, E, ρ, r, a⟩ => ⟨E0, H0, E, ρ, r, a.imp fun d k v E' H' g s => k v E' H' g (.inl s)⟩
theorem n_w {e : Expr} {f : Ev} (h : PE X e (tN K cl W f)) : PE X e (tW K cl W f) := PE.imp h fun σ H Q ⟨E0, H0, E, ρ, r, a⟩ => ⟨E0, H0, E, ρ, r, a.imp fun d k v E' H' g ⟨b, h1, h2, h3, h4⟩ => k v E' H' g (.inr ⟨b, h1, h3, h4⟩)⟩
theorem Ow.fix {E H : Hp} {a : Addr} {d : Dt} (h : Ow K cl E H a d) (n : E a = none) : ∃ o, H a = some o ∧ Dn K cl (upd E a o) (.ref a) d := by
  obtain ⟨o, ho, _⟩ := h.there
  refine ⟨o, ho, ?_⟩
  exact h.dn (G := upd E a o) (Sub.up n) fun u hu => by rw [ho] at hu; cases hu; exact upd_same
theorem n_d {e : Expr} {f : Ev} (h : PE X e (tN K cl W f)) : PE X e (tD K cl W f) := PE.imp h fun σ H Q ⟨E0, H0, E, ρ, r, a⟩ => ⟨E0, H0, E, ρ, r, a.imp fun d k v E' H' g ⟨b, h1, h2, h3, h4⟩ => by
  obtain ⟨o, ho, hd⟩ := h4.fix h3
  subst h1
  exact k _ _ H' (g.fix h2 ho h3) hd⟩
/-- the value of an expression that stuck is nothing claimed -/
theorem pe_st {e : Expr} : PE X e (tG K cl W S fun _ => .st) := ⟨fun _ _ _ _ _ _ ⟨_, _, _, _, _, h⟩ => h.elim⟩

/-! ### operators -/
@[simp] def c1 (o : Dt → Option Dt) (f : Ev) : Ev := fun ρ => (f ρ).bind fun x => ofO (o x)
@[simp] def c2 (o : Dt → Dt → Option Dt) (f g : Ev) : Ev := fun ρ => (f ρ).bind fun x => (g ρ).bind fun y => ofO (o x y)
theorem bin_ {r : R2} {o : Dt → Dt → Option Dt} {f g : Ev} (m1 : Mo R1) (c : Co S)
    (hr : ∀ E H v w x y z, Sb E H → R1 E H v x → R2' E H w y → o x y = some z → ∀ Q : VK, (∀ u E' H', Gr E H E' H' → S E H E' H' u z → Q u H') → r v w H Q) (σ : L2.St) (H : Hp) (Q : VK)
    (h : tG K cl W S (c2 o f g) σ H Q) : tOp r (tR K cl W R1 f) (tR K cl W R2' g) σ H Q := by
  obtain ⟨E0, H0, E, ρ, rl, a⟩ := h
  refine ⟨E0, H0, E, ρ, rl, An.imp (An.bind a) fun x a1 v E1 H1 g1 s1 => ?_⟩
  refine ⟨E0, H0, E1, ρ, rl.grow g1, (An.bind a1).grow g1 fun y a2 w E2 H2 g2 s2 => ?_⟩
  obtain ⟨z, hz, k⟩ := An.ofO a2
  exact hr E2 H2 v w x y z ((rl.grow g1).grow g2).sb (m1 _ _ _ _ _ _ s1 g2) s2 hz Q fun u E' H' g3 s3 => k u E' H' ((g1.trans g2).trans g3) (c _ _ _ _ _ _ _ _ (g1.trans g2) s3)
theorem un_ {r : V → Hp → VK → Prop} {o : Dt → Option Dt} {f : Ev} (c : Co S)
    (hr : ∀ E H v x z, Sb E H → R1 E H v x → o x = some z → ∀ Q : VK, (∀ u E' H', Gr E H E' H' → S E H E' H' u z → Q u H') → r v H Q) (σ : L2.St) (H : Hp) (Q : VK)
    (h : tG K cl W S (c1 o f) σ H Q) : tUn r (tR K cl W R1 f) σ H Q := by
  obtain ⟨E0, H0, E, ρ, rl, a⟩ := h
  refine ⟨E0, H0, E, ρ, rl, An.imp (An.bind a) fun x a1 v E1 H1 g1 s1 => ?_⟩
  obtain ⟨z, hz, k⟩ := An.ofO a1
  exact hr E1 H1 v x z (rl.grow g1).sb s1 hz Q fun u E' H' g3 s3 => k u E' H' (g1.trans g3) (c _ _ _ _ _ _ _ _ g1 s3)
/-- what an operator that makes nothing new gives -/
theorem same_ {E H : Hp} {v : V} {z : Dt} {Q : VK} (sb : Sb E H) (h : Dn K cl E v z) (k : ∀ u E' H', Gr E H E' H' → Dn K cl E' u z → Q u H') : Q v H := k v E H (Gr.refl sb.sub) h

/-! ### names and constants -/
@[simp] def cV (i : Nat) : Ev := fun ρ => match ρ[i]? with
  | some (.va d) => .ok d
  | _ => .st
@[simp] def cVw (i : Nat) : Ev := fun ρ => match ρ[i]? with
  | some (.va d) => .ok d
  | some (.ow d) => .ok d
  | _ => .st
@[simp] def cK (d : Dt) : Ev := fun _ => .ok d
theorem d_var {e : Expr} {i : Nat} (h : PE X e (tVar i)) : PE X e (tD K cl W (cV i)) := PE.imp h fun σ H Q ⟨E0, H0, E, ρ, r, a⟩ => by
  unfold cV at a
  split at a
  · rename_i d q
    obtain ⟨v, h1, h2⟩ := r.va i d q
    exact ⟨v, h1, a v E H (Gr.refl r.sb.sub) h2⟩
  · exact a.elim
theorem w_var {e : Expr} {i : Nat} (h : PE X e (tVar i)) : PE X e (tW K cl W (cVw i)) := PE.imp h fun σ H Q ⟨E0, H0, E, ρ, r, a⟩ => by
  unfold cVw at a
  split at a
  · rename_i d q
    obtain ⟨v, h1, h2⟩ := r.va i d q
    exact ⟨v, h1, a v E H (Gr.refl r.sb.sub) (.inl h2)⟩
  · rename_i d q
    obtain ⟨b, h1, h2, h3, h4⟩ := r.ow i d q
    exact ⟨_, h1, a _ E H (Gr.refl r.sb.sub) (.inr ⟨b, rfl, h3, h4⟩)⟩
  · exact a.elim
theorem d_const {e : Expr} {v : V} {d : Dt} (h : PE X e (tC v)) (hd : ∀ E, Dn K cl E v d) : PE X e (tD K cl W (cK d)) := PE.imp h fun σ H Q ⟨E0, H0, E, ρ, r, a⟩ => a v E H (Gr.refl r.sb.sub) (hd E)
theorem d_int {i : Int} {j pos} : PE X (.Constant (.int i) j pos) (tD K cl W (cK (.int i))) := d_const pe_int fun _ => .int i
theorem d_bl {b : Bool} {j pos} : PE X (.Constant (.bool b) j pos) (tD K cl W (cK (.bl b))) := d_const pe_bl fun _ => .bl b
theorem d_non {j pos} : PE X (.Constant .none j pos) (tD K cl W (cK .non)) := d_const pe_non fun _ => .non
theorem d_str {x : Str} {j pos} : PE X (.Constant (.str x) j pos) (tD K cl W (cK (.str x))) := d_const pe_str fun _ => .str x

/-! ### ints -/
@[simp] def oAdd : Dt → Dt → Option Dt
  | .int i, .int j => some (.int (i + j))
  | _, _ => none
@[simp] def oSub : Dt → Dt → Option Dt
  | .int i, .int j => some (.int (i - j))
  | _, _ => none
def small (i : Int) : Bool := decide (-(2 ^ 64) < i) && decide (i < 2 ^ 64)
@[simp] def oMul : Dt → Dt → Option Dt
  | .int i, .int j => if small i || small j then some (.int (i * j)) else none
  | _, _ => none
@[simp] def oDiv : Dt → Dt → Option Dt
  | .int i, .int j => if decide (0 < j) && decide (j < 1073741824) then some (.int (i / j)) else none
  | _, _ => none
@[simp] def oMod : Dt → Dt → Option Dt
  | .int i, .int j => if decide (0 < j) then some (.int (i % j)) else none
  | _, _ => none
@[simp] def oPow : Dt → Dt → Option Dt
  | .int i, .int j => if decide (0 ≤ j) && decide (j ≤ 1000000) && decide (i.natAbs < 2 ^ 64) then some (.int (i ^ j.toNat)) else none
  | _, _ => none
@[simp] def oNeg : Dt → Option Dt
  | .int i => some (.int (-i))
  | _ => none
variable {a b : Expr} {f g : Ev} {pos : Pos}
theorem d_add (ha : PE X a (tD K cl W f)) (hb : PE X b (tD K cl W g)) : PE X (.BinOp a .Add b pos) (tD K cl W (c2 oAdd f g)) :=
  PE.imp (pe_op op_add ha hb) (bin_ moD coR fun E H v w x y z sb h1 h2 e Q k => by
    unfold oAdd at e; split at e
    · cases e; cases h1; cases h2; exact ⟨_, _, rfl, rfl, same_ sb (.int _) k⟩
    · cases e)
theorem d_sub (ha : PE X a (tD K cl W f)) (hb : PE X b (tD K cl W g)) : PE X (.BinOp a .Sub b pos) (tD K cl W (c2 oSub f g)) :=
  PE.imp (pe_op op_sub ha hb) (bin_ moD coR fun E H v w x y z sb h1 h2 e Q k => by
    unfold oSub at e; split at e
    · cases e; cases h1; cases h2; exact ⟨_, _, rfl, rfl, same_ sb (.int _) k⟩
    · cases e)
theorem small_iff {i : Int} (h : small i = true) : -(2 ^ 64) < i ∧ i < 2 ^ 64 := by
  unfold small at h
  rw [Bool.and_eq_true] at h
  exact ⟨of_decide_eq_true h.1, of_decide_eq_true h.2⟩
theorem d_mul (ha : PE X a (tD K cl W f)) (hb : PE X b (tD K cl W g)) : PE X (.BinOp a .Mult b pos) (tD K cl W (c2 oMul f g)) :=
  PE.imp (pe_op op_mul ha hb) (bin_ moD coR fun E H v w x y z sb h1 h2 e Q k => by
    unfold oMul at e; split at e
    · split at e
      · rename_i hc
        cases e; cases h1; cases h2
        rw [Bool.or_eq_true] at hc
        exact ⟨_, _, rfl, rfl, hc.elim (fun q => .inl (small_iff q)) (fun q => .inr (small_iff q)), same_ sb (.int _) k⟩
      · cases e
    · cases e)
theorem d_fdiv (ha : PE X a (tD K cl W f)) (hb : PE X b (tD K cl W g)) : PE X (.BinOp a .FloorDiv b pos) (tD K cl W (c2 oDiv f g)) :=
  PE.imp (pe_op op_fdiv ha hb) (bin_ moD coR fun E H v w x y z sb h1 h2 e Q k => by
    unfold oDiv at e; split at e
    · split at e
      · rename_i hc
        cases e; cases h1; cases h2
        rw [Bool.and_eq_true] at hc
        exact ⟨_, _, rfl, rfl, ⟨of_decide_eq_true hc.1, of_decide_eq_true hc.2⟩, same_ sb (.int _) k⟩
      · cases e
    · cases e)
theorem d_mod (ha : PE X a (tD K cl W f)) (hb : PE X b (tD K cl W g)) : PE X (.BinOp a .Mod b pos) (tD K cl W (c2 oMod f g)) :=
  PE.imp (pe_op op_mod ha hb) (bin_ moD coR fun E H v w x y z sb h1 h2 e Q k => by
    unfold oMod at e; split at e
    · split at e
      · rename_i hc
        cases e; cases h1; cases h2
        exact ⟨_, _, rfl, rfl, of_decide_eq_true hc, same_ sb (.int _) k⟩
      · cases e
    · cases e)
theorem d_pow (ha : PE X a (tD K cl W f)) (hb : PE X b (tD K cl W g)) : PE X (.BinOp a .Pow b pos) (tD K cl W (c2 oPow f g)) :=
  PE.imp (pe_op op_pow ha hb) (bin_ moD coR fun E H v w x y z sb h1 h2 e Q k => by
    unfold oPow at e; split at e
    · split at e
      · rename_i hc
        cases e; cases h1; cases h2
        rw [Bool.and_eq_true, Bool.and_eq_true] at hc
        exact ⟨_, _, rfl, rfl, ⟨of_decide_eq_true hc.1.1, of_decide_eq_true hc.1.2, of_decide_eq_true hc.2⟩, same_ sb (.int _) k⟩
      · cases e
    · cases e)
theorem d_neg (ha : PE X a (tD K cl W f)) : PE X (.UnaryOp .USub a pos) (tD K cl W (c1 oNeg f)) :=
  PE.imp (pe_un un_neg ha) (un_ coR fun E H v x z sb h1 e Q k => by
    unfold oNeg at e; split at e
    · cases e; cases h1; exact ⟨_, rfl, same_ sb (.int _) k⟩
    · cases e)

/-! ### comparisons as values -/
@[simp] def oCmp (p : Int → Int → Bool) : Dt → Dt → Option Dt
  | .int i, .int j => some (.bl (p i j))
  | _, _ => none
abbrev oLt := oCmp fun i j => decide (i < j)
abbrev oLe := oCmp fun i j => decide (i ≤ j)
abbrev oGt := oCmp fun i j => decide (j < i)
abbrev oGe := oCmp fun i j => decide (j ≤ i)
theorem cmp_ {p : Int → Int → Bool} (σ : L2.St) (H : Hp) (Q : VK) (h : tD K cl W (c2 (oCmp p) f g) σ H Q) : tOp (rI0 fun i j => .bl (p i j)) (tD K cl W f) (tD K cl W g) σ H Q :=
  bin_ moD coR (fun E H v w x y z sb h1 h2 e Q k => by
    unfold oCmp at e; split at e
    · cases e; cases h1; cases h2; exact ⟨_, _, rfl, rfl, same_ sb (.bl _) k⟩
    · cases e) σ H Q h
theorem d_lt (ha : PE X a (tD K cl W f)) (hb : PE X b (tD K cl W g)) : PE X (.Compare a [.Lt] [b] pos) (tD K cl W (c2 oLt f g)) := PE.imp (pe_cmpR op_lt ha hb (nomark _)) cmp_
theorem d_le (ha : PE X a (tD K cl W f)) (hb : PE X b (tD K cl W g)) : PE X (.Compare a [.LtE] [b] pos) (tD K cl W (c2 oLe f g)) := PE.imp (pe_cmpR op_le ha hb (nomark _)) cmp_
theorem d_gt (ha : PE X a (tD K cl W f)) (hb : PE X b (tD K cl W g)) : PE X (.Compare a [.Gt] [b] pos) (tD K cl W (c2 oGt f g)) := PE.imp (pe_cmpR op_gt ha hb (nomark _)) cmp_
theorem d_ge (ha : PE X a (tD K cl W f)) (hb : PE X b (tD K cl W g)) : PE X (.Compare a [.GtE] [b] pos) (tD K cl W (c2 oGe f g)) := PE.imp (pe_cmpR op_ge ha hb (nomark _)) cmp_
/-- equality: scalars, or data -/
@[simp] def scD : Dt → Option V
  | .non => some .non
  | .bl b => some (.bl b)
  | .int i => some (.int i)
  | .str x => some (.str x)
  | _ => none
def eqD (x y : Dt) : Option Bool := match scD x, scD y with
  | some v, some w => if scal v w then some (decide (v = w)) else none
  | _, _ => match toPy x, toPy y with
    | some p, some q => if SeqAt.shaped p && SeqAt.shaped q then some (PyData.eqv p q) else none
    | _, _ => none
def oEq (x y : Dt) : Option Dt := (eqD x y).map .bl
def oNe (x y : Dt) : Option Dt := (eqD x y).map fun b => .bl (!b)
theorem scD_dn {E : Hp} {d : Dt} {v w : V} (h : Dn K cl E v d) (e : scD d = some w) : v = w := by
  cases h <;> first | (cases e; rfl) | cases e
theorem eqD_cases {E H : Hp} {v w : V} {x y : Dt} {b : Bool} (s : Sub E H) (h1 : Wk K cl E H v x) (h2 : Wk K cl E H w y) (e : eqD x y = some b) :
    (scal v w = true ∧ b = decide (v = w)) ∨ ∃ p q, Dp K H v p ∧ Dp K H w q ∧ SeqAt.shaped p = true ∧ SeqAt.shaped q = true ∧ b = PyData.eqv p q := by
  have k1 := h1.full s
  have k2 := h2.full s
  unfold eqD at e
  split at e
  · rename_i v' w' q1 q2
    have e1 := scD_dn k1 q1
    have e2 := scD_dn k2 q2
    subst e1 e2
    split at e
    · rename_i hs; cases e; exact .inl ⟨hs, rfl⟩
    · cases e
  · split at e
    · rename_i p q q1 q2
      split at e
      · rename_i hs
        rw [Bool.and_eq_true] at hs
        cases e
        exact .inr ⟨p, q, k1.dp q1, k2.dp q2, hs.1, hs.2, rfl⟩
      · cases e
    · cases e
theorem eq_i (σ : L2.St) (H : Hp) (Q : VK) (h : tD K cl W (c2 oEq f g) σ H Q) : tOp (fun x y H Q => rEq x y H Q ∨ rEqD K x y H Q) (tW K cl W f) (tW K cl W g) σ H Q :=
  bin_ moW coR (fun E H v w x y z sb h1 h2 e Q k => by
    unfold oEq at e
    cases q : eqD x y with
    | none => rw [q] at e; cases e
    | some b =>
      rw [q] at e; cases e
      rcases eqD_cases sb.sub h1 h2 q with ⟨h, rfl⟩ | ⟨p, p2, a1, a2, a3, a4, rfl⟩
      · exact .inl ⟨h, same_ sb (.bl _) k⟩
      · exact .inr ⟨p, p2, a1, a2, a3, a4, same_ sb (.bl _) k⟩) σ H Q h
theorem ne_i (σ : L2.St) (H : Hp) (Q : VK) (h : tD K cl W (c2 oNe f g) σ H Q) : tOp (fun x y H Q => rNe x y H Q ∨ rNeD K x y H Q) (tW K cl W f) (tW K cl W g) σ H Q :=
  bin_ moW coR (fun E H v w x y z sb h1 h2 e Q k => by
    unfold oNe at e
    cases q : eqD x y with
    | none => rw [q] at e; cases e
    | some b =>
      rw [q] at e; cases e
      rcases eqD_cases sb.sub h1 h2 q with ⟨h, rfl⟩ | ⟨p, p2, a1, a2, a3, a4, rfl⟩
      · exact .inl ⟨h, same_ sb (.bl _) k⟩
      · exact .inr ⟨p, p2, a1, a2, a3, a4, same_ sb (.bl _) k⟩) σ H Q h
theorem d_eq (hu : X.A.units + 64 < cLine) (ha : PE X a (tW X.K cl W f)) (hb : PE X b (tW X.K cl W g)) : PE X (.Compare a [.Eq] [b] pos) (tD X.K cl W (c2 oEq f g)) := PE.imp (pe_cmpR (op_eq.or (op_eqD hu)) ha hb (nomark _)) eq_i
theorem d_ne (hu : X.A.units + 64 < cLine) (ha : PE X a (tW X.K cl W f)) (hb : PE X b (tW X.K cl W g)) : PE X (.Compare a [.NotEq] [b] pos) (tD X.K cl W (c2 oNe f g)) := PE.imp (pe_cmpR (op_ne.or (op_neD hu)) ha hb (nomark _)) ne_i
/-- is None -/
@[simp] def oIsN : Dt → Option Dt
  | .non => some (.bl true)
  | _ => some (.bl false)
@[simp] def oNotN : Dt → Option Dt
  | .non => some (.bl false)
  | _ => some (.bl true)
theorem isN_i (σ : L2.St) (H : Hp) (Q : VK) (h : tD K cl W (c1 oIsN f) σ H Q) : tIsN (tW K cl W f) σ H Q :=
  un_ (r := fun v H Q => Q (.bl (decide (v = .non))) H) coR (fun E H v x z sb h1 e Q k => by
    have h := h1.full sb.sub
    cases h <;> cases e <;> exact same_ sb (.bl _) k) σ H Q h
theorem notN_i (σ : L2.St) (H : Hp) (Q : VK) (h : tD K cl W (c1 oNotN f) σ H Q) : tNotN (tW K cl W f) σ H Q :=
  un_ (r := fun v H Q => Q (.bl (!decide (v = .non))) H) coR (fun E H v x z sb h1 e Q k => by
    have h := h1.full sb.sub
    cases h <;> cases e <;> exact same_ sb (.bl _) k) σ H Q h
theorem d_isN {j pos'} (ha : PE X a (tW K cl W f)) : PE X (.Compare a [.Is] [.Constant .none j pos'] pos) (tD K cl W (c1 oIsN f)) := PE.imp (pe_cmp (pc_isN ha) rfl) isN_i
theorem d_notN {j pos'} (ha : PE X a (tW K cl W f)) : PE X (.Compare a [.IsNot] [.Constant .none j pos'] pos) (tD K cl W (c1 oNotN f)) := PE.imp (pe_cmp (pc_notN ha) rfl) notN_i
end
end Dl
namespace Dl
open PySem L2
section
variable {K : PySem.W.Frag} {cl : Str → Addr} {X : Cx} {W : L2.WX} {R : Rel} {S : Rl4} {a b c e x : Expr} {es rest : List Expr} {f g h : Ev} {t u : Tv} {fa : Av} {pos p p2 : Pos}

/-! ### tests -/
@[simp] def cT (f : Ev) : Tv := fun ρ => (f ρ).bind fun d => match d with
  | .bl b => .ok b
  | _ => .st
@[simp] def cAnd (t u : Tv) : Tv := fun ρ => (t ρ).bind fun b => cond b (u ρ) (.ok false)
@[simp] def cOr (t u : Tv) : Tv := fun ρ => (t ρ).bind fun b => cond b (.ok true) (u ρ)
@[simp] def cNot (t : Tv) : Tv := fun ρ => (t ρ).bind fun b => .ok (!b)
@[simp] def cB (t : Tv) : Ev := fun ρ => (t ρ).bind fun b => .ok (.bl b)
@[simp] def truD : Dt → Option Bool
  | .non => some false
  | .bl b => some b
  | .int i => some (i != 0)
  | .str x => if x.length ≤ sizeLine then some ((x.length : Int) != 0) else none
  | .lst xs => some (!xs.isEmpty)
  | .tup xs => some (!xs.isEmpty)
  | _ => none
@[simp] def cTru (f : Ev) : Tv := fun ρ => (f ρ).bind fun d => ofO (truD d)
theorem t_val (h : PE X e (tD K cl W f)) (he : ∀ whole, isTrue e X.env whole = (do let v ← whole; standAt e.pos; holding [v] (truthy v)) := by intro _; rfl) : PT X e (tT K cl W (cT f)) :=
  PT.imp (pt_val h he) fun σ H Q ⟨E0, H0, E, ρ, r, an⟩ => ⟨E0, H0, E, ρ, r, (An.bind an).imp fun d k v E' H' g' s => by
    cases s <;> first | exact k.elim | exact ⟨_, rfl, k E' H' g'⟩⟩
theorem isEmpty_of {E : Hp} {vs : List V} {ds : List Dt} (h : DnA K cl E vs ds) : vs.isEmpty = ds.isEmpty := by
  cases ds with
  | nil => cases h; rfl
  | cons d ds => cases h; rfl
theorem t_tru (h : PE X e (tW X.K cl W f)) (he : ∀ whole, isTrue e X.env whole = (do let v ← whole; standAt e.pos; holding [v] (truthy v)) := by intro _; rfl) : PT X e (tT X.K cl W (cTru f)) :=
  PT.imp (pt_truth h he) fun σ H Q ⟨E0, H0, E, ρ, r, an⟩ => ⟨E0, H0, E, ρ, r, (An.bind an).imp fun d k v E' H' g' s => by
    have s := s.full g'.eh
    obtain ⟨b, hb, k⟩ := An.ofO k
    refine ⟨b, ?_, k E' H' g'⟩
    cases s with
    | non => cases hb; rfl
    | bl y => cases hb; rfl
    | int i => cases hb; rfl
    | str y =>
      have hb : (if y.length ≤ sizeLine then some ((y.length : Int) != 0) else none) = some b := hb
      by_cases hy : y.length ≤ sizeLine
      · rw [if_pos hy] at hb; cases hb; exact ⟨hy, rfl⟩
      · rw [if_neg hy] at hb; cases hb
    | lst hs hr => cases hb; exact .inl ⟨_, SqL.of hs, by rw [isEmpty_of hr]⟩
    | scr hs => cases hb
    | tup hs hr => cases hb; exact .inr (.inl ⟨_, hs, by rw [isEmpty_of hr]⟩)
    | dct hs hr => cases hb
    | obj hs hr => cases hb⟩
theorem t_and1 (ha : PT X a (tT K cl W t)) : PW X (.BoolOp .And [a] pos) (tT K cl W t) := pw_and1 ha
theorem t_or1 (ha : PT X a (tT K cl W t)) : PW X (.BoolOp .Or [a] pos) (tT K cl W t) := pw_or1 ha
theorem t_and (ha : PT X a (tT K cl W t)) (hb : PW X (.BoolOp .And (b :: rest) pos) (tT K cl W u)) : PW X (.BoolOp .And (a :: b :: rest) pos) (tT K cl W (cAnd t u)) :=
  PW.imp (pw_and ha hb) fun σ H Q ⟨E0, H0, E, ρ, r, an⟩ => ⟨E0, H0, E, ρ, r, (An.bind an).imp fun d k E' H' g' => by
    cases d with
    | false => exact iteF (k E' H' g')
    | true => exact iteT ⟨E0, H0, E', ρ, r.grow g', An.grow k g' fun b k E2 H2 g2 => k E2 H2 (g'.trans g2)⟩⟩
theorem t_or (ha : PT X a (tT K cl W t)) (hb : PW X (.BoolOp .Or (b :: rest) pos) (tT K cl W u)) : PW X (.BoolOp .Or (a :: b :: rest) pos) (tT K cl W (cOr t u)) :=
  PW.imp (pw_or ha hb) fun σ H Q ⟨E0, H0, E, ρ, r, an⟩ => ⟨E0, H0, E, ρ, r, (An.bind an).imp fun d k E' H' g' => by
    cases d with
    | true => exact iteT (k E' H' g')
    | false => exact iteF ⟨E0, H0, E', ρ, r.grow g', An.grow k g' fun b k E2 H2 g2 => k E2 H2 (g'.trans g2)⟩⟩
theorem t_not (ha : PT X a (tT K cl W t)) : PT X (.UnaryOp .Not a pos) (tT K cl W (cNot t)) :=
  PT.imp (pt_not ha) fun σ H Q ⟨E0, H0, E, ρ, r, an⟩ => ⟨E0, H0, E, ρ, r, (An.bind an).imp fun d k E' H' g' => k E' H' g'⟩
/-- and, or, not of bools as values -/
@[simp] def cAndV (f g : Ev) : Ev := fun ρ => (cT f ρ).bind fun b => cond b (g ρ) (.ok (.bl false))
@[simp] def cOrV (f g : Ev) : Ev := fun ρ => (cT f ρ).bind fun b => cond b (.ok (.bl true)) (g ρ)
@[simp] def cNotV (f : Ev) : Ev := fun ρ => (cT f ρ).bind fun b => .ok (.bl (!b))
theorem bindT {α : Type} {σ : L2.St} {E H : Hp} {ρ : List Sl} {f : Ev} {F : Bool → Rs α} {k : α → Prop} (h : An cl W σ E H ((cT f ρ).bind F) k) : An cl W σ E H (f ρ) fun d => ∃ b, d = .bl b ∧ An cl W σ E H (F b) k := by
  unfold cT at h
  cases q : f ρ with
  | st => rw [q] at h; exact h.elim
  | ex n => rw [q] at h; exact h
  | ok d =>
    rw [q] at h
    cases d <;> first | exact h.elim | exact ⟨_, rfl, h⟩
theorem d_one {op} (h : PE X a (tG K cl W S f)) : PE X (.BoolOp op [a] pos) (tG K cl W S f) := pe_one h
theorem d_and (ha : PE X a (tD K cl W f)) (hb : PE X (.BoolOp .And (b :: rest) pos) (tD K cl W g)) : PE X (.BoolOp .And (a :: b :: rest) pos) (tD K cl W (cAndV f g)) :=
  PE.imp (pe_and ha hb) fun σ H Q ⟨E0, H0, E, ρ, r, an⟩ => ⟨E0, H0, E, ρ, r, (bindT an).imp fun d ⟨b, e, k⟩ v E' H' g' s => by
    subst e; cases s
    refine ⟨_, rfl, ?_⟩
    cases b with
    | false => exact iteF (k _ E' H' g' (.bl false))
    | true => exact iteT ⟨E0, H0, E', ρ, r.grow g', An.grow k g' fun b k v E2 H2 g2 s => k v E2 H2 (g'.trans g2) s⟩⟩
theorem d_or (ha : PE X a (tD K cl W f)) (hb : PE X (.BoolOp .Or (b :: rest) pos) (tD K cl W g)) : PE X (.BoolOp .Or (a :: b :: rest) pos) (tD K cl W (cOrV f g)) :=
  PE.imp (pe_or ha hb) fun σ H Q ⟨E0, H0, E, ρ, r, an⟩ => ⟨E0, H0, E, ρ, r, (bindT an).imp fun d ⟨b, e, k⟩ v E' H' g' s => by
    subst e; cases s
    refine ⟨_, rfl, ?_⟩
    cases b with
    | true => exact iteT (k _ E' H' g' (.bl true))
    | false => exact iteF ⟨E0, H0, E', ρ, r.grow g', An.grow k g' fun b k v E2 H2 g2 s => k v E2 H2 (g'.trans g2) s⟩⟩
theorem d_not (ha : PE X a (tD K cl W f)) : PE X (.UnaryOp .Not a pos) (tD K cl W (cNotV f)) :=
  PE.imp (pe_not ha) fun σ H Q ⟨E0, H0, E, ρ, r, an⟩ => ⟨E0, H0, E, ρ, r, (bindT an).imp fun d ⟨b, e, k⟩ v E' H' g' s => by
    subst e; cases s
    exact ⟨_, rfl, k _ E' H' g' (.bl _)⟩⟩
@[simp] def cIf (t : Tv) (f g : Ev) : Ev := fun ρ => (t ρ).bind fun b => cond b (f ρ) (g ρ)
theorem d_if (hc : PT X c (tT K cl W t)) (ha : PE X a (tG K cl W S f)) (hb : PE X b (tG K cl W S g)) (co : Co S) : PE X (.IfExp c a b pos) (tG K cl W S (cIf t f g)) :=
  PE.imp (pe_ifExp hc ha hb) fun σ H Q ⟨E0, H0, E, ρ, r, an⟩ => ⟨E0, H0, E, ρ, r, (An.bind an).imp fun d k E' H' g' => by
    cases d with
    | true => exact iteT ⟨E0, H0, E', ρ, r.grow g', An.grow k g' fun b k v E2 H2 g2 s => k v E2 H2 (g'.trans g2) (co _ _ _ _ _ _ _ _ g' s)⟩
    | false => exact iteF ⟨E0, H0, E', ρ, r.grow g', An.grow k g' fun b k v E2 H2 g2 s => k v E2 H2 (g'.trans g2) (co _ _ _ _ _ _ _ _ g' s)⟩⟩
/-- a test as a value where the expression is a comparison chain -/
@[simp] def cChain (o o' : Dt → Dt → Option Dt) (f g h : Ev) : Ev := fun ρ => (f ρ).bind fun x => (g ρ).bind fun y => match o x y with
  | some (.bl b) => cond b ((h ρ).bind fun z => ofO (o' y z)) (.ok (.bl false))
  | _ => .st
theorem chain_ {p q : Int → Int → Bool} (σ : L2.St) (H : Hp) (Q : VK) (an : tD K cl W (cChain (oCmp p) (oCmp q) f g h) σ H Q) :
    tChain (rI0 fun i j => .bl (p i j)) (rI0 fun i j => .bl (q i j)) (tD K cl W f) (tD K cl W g) (tD K cl W h) σ H Q := by
  obtain ⟨E0, H0, E, ρ, r, an⟩ := an
  refine ⟨E0, H0, E, ρ, r, (An.bind an).imp fun x k1 v E1 H1 g1 s1 => ?_⟩
  refine ⟨E0, H0, E1, ρ, r.grow g1, (An.bind k1).grow g1 fun y k2 w E2 H2 g2 s2 => ?_⟩
  unfold oCmp at k2
  split at k2
  · rename_i b hb
    split at hb
    · rename_i i j
      cases hb; cases s1; cases s2
      refine ⟨i, j, rfl, rfl, _, rfl, ?_⟩
      generalize p i j = b at k2
      cases b with
      | false => exact iteF (k2 _ E2 H2 (g1.trans g2) (.bl _))
      | true =>
        refine iteT ⟨E0, H0, E2, ρ, (r.grow g1).grow g2, An.grow (An.bind k2) (g1.trans g2) fun z k3 u E3 H3 g3 s3 => ?_⟩
        obtain ⟨d, hd, k⟩ := An.ofO k3
        cases z <;> first
          | (cases hd; cases s3; exact ⟨_, _, rfl, rfl, k _ E3 H3 ((g1.trans g2).trans g3) (.bl _)⟩)
          | cases hd
    · cases hb
  · exact k2.elim
theorem d_chain {op op' : CmpOp} {p q : Int → Int → Bool} (ho : OpR X (compareOp op) (rI0 fun i j => .bl (p i j))) (ho' : OpR X (compareOp op') (rI0 fun i j => .bl (q i j))) (ha : PE X a (tD K cl W f)) (hb : PE X b (tD K cl W g)) (hc : PE X c (tD K cl W h))
    (hm : lastMarks [op, op'] [b, c] = false := by with_unfolding_all rfl) : PE X (.Compare a [op, op'] [b, c] pos) (tD K cl W (cChain (oCmp p) (oCmp q) f g h)) := PE.imp (pe_chain ho ho' ha hb hc hm) chain_
theorem t_chain {op op' : CmpOp} {p q : Int → Int → Bool} (ho : OpR X (compareOp op) (rI0 fun i j => .bl (p i j))) (ho' : OpR X (compareOp op') (rI0 fun i j => .bl (q i j))) (ha : PE X a (tD K cl W f)) (hb : PE X b (tD K cl W g)) (hc : PE X c (tD K cl W h))
    (hm : lastMarks [op, op'] [b, c] = false := by with_unfolding_all rfl) : PT X (.Compare a [op, op'] [b, c] pos) (tT K cl W (cT (cChain (oCmp p) (oCmp q) f g h))) :=
  PT.imp (pt_chain ho ho' ha hb hc hm) fun σ H Q ⟨E0, H0, E, ρ, r, an⟩ => by
    refine chain_ σ H _ ⟨E0, H0, E, ρ, r, (An.bind an).imp fun d k v E' H' g' s => ?_⟩
    cases s <;> first | exact k.elim | exact ⟨_, rfl, k E' H' g'⟩

/-! ### comparisons as tests -/
theorem tst_ {t : TE} (i : ∀ σ H Q, tD K cl W f σ H Q → t σ H Q) (σ : L2.St) (H : Hp) (Q : Bool → Hp → Prop) (h : tT K cl W (cT f) σ H Q) : t σ H fun x H' => ∃ k, x = .bl k ∧ Q k H' := by
  obtain ⟨E0, H0, E, ρ, r, an⟩ := h
  refine i σ H _ ⟨E0, H0, E, ρ, r, (An.bind an).imp fun d k v E' H' g s => ?_⟩
  cases s <;> first | exact k.elim | exact ⟨_, rfl, k E' H' g⟩
theorem t_lt (ha : PE X a (tD K cl W f)) (hb : PE X b (tD K cl W g)) : PT X (.Compare a [.Lt] [b] pos) (tT K cl W (cT (c2 oLt f g))) := PT.imp (pt_cmpR op_lt ha hb (nomark _)) (tst_ cmp_)
theorem t_le (ha : PE X a (tD K cl W f)) (hb : PE X b (tD K cl W g)) : PT X (.Compare a [.LtE] [b] pos) (tT K cl W (cT (c2 oLe f g))) := PT.imp (pt_cmpR op_le ha hb (nomark _)) (tst_ cmp_)
theorem t_gt (ha : PE X a (tD K cl W f)) (hb : PE X b (tD K cl W g)) : PT X (.Compare a [.Gt] [b] pos) (tT K cl W (cT (c2 oGt f g))) := PT.imp (pt_cmpR op_gt ha hb (nomark _)) (tst_ cmp_)
theorem t_ge (ha : PE X a (tD K cl W f)) (hb : PE X b (tD K cl W g)) : PT X (.Compare a [.GtE] [b] pos) (tT K cl W (cT (c2 oGe f g))) := PT.imp (pt_cmpR op_ge ha hb (nomark _)) (tst_ cmp_)
theorem t_eq (hu : X.A.units + 64 < cLine) (ha : PE X a (tW X.K cl W f)) (hb : PE X b (tW X.K cl W g)) : PT X (.Compare a [.Eq] [b] pos) (tT X.K cl W (cT (c2 oEq f g))) := PT.imp (pt_cmpR (op_eq.or (op_eqD hu)) ha hb (nomark _)) (tst_ eq_i)
theorem t_ne (hu : X.A.units + 64 < cLine) (ha : PE X a (tW X.K cl W f)) (hb : PE X b (tW X.K cl W g)) : PT X (.Compare a [.NotEq] [b] pos) (tT X.K cl W (cT (c2 oNe f g))) := PT.imp (pt_cmpR (op_ne.or (op_neD hu)) ha hb (nomark _)) (tst_ ne_i)
theorem t_isN {j pos'} (ha : PE X a (tW K cl W f)) : PT X (.Compare a [.Is] [.Constant .none j pos'] pos) (tT K cl W (cT (c1 oIsN f))) := PT.imp (pt_cmp (pc_isN ha) rfl) (tst_ isN_i)
theorem t_notN {j pos'} (ha : PE X a (tW K cl W f)) : PT X (.Compare a [.IsNot] [.Constant .none j pos'] pos) (tT K cl W (cT (c1 oNotN f))) := PT.imp (pt_cmp (pc_notN ha) rfl) (tst_ notN_i)

/-! ### argument lists -/
@[simp] def aNil : Av := fun _ => .ok []
@[simp] def aCons (f : Ev) (fa : Av) : Av := fun ρ => (f ρ).bind fun x => (fa ρ).bind fun xs => .ok (x :: xs)
theorem a_nil : PA X [] (tA K cl W R aNil) := PA.imp pa_nil fun σ H Q ⟨E0, H0, E, ρ, r, k⟩ => k [] E H (Gr.refl r.sb.sub) .nil
theorem a_cons (m : Mo R) (ha : PE X e (tR K cl W R f)) (hr : PA X es (tA K cl W R fa)) (hs : starEach (e :: es) X.env = (false, eval e X.env) :: starEach es X.env := by rfl) : PA X (e :: es) (tA K cl W R (aCons f fa)) :=
  PA.imp (pa_cons ha hr hs) fun σ H Q ⟨E0, H0, E, ρ, r, an⟩ => ⟨E0, H0, E, ρ, r, (An.bind an).imp fun x k1 v E1 H1 g1 s1 => ⟨E0, H0, E1, ρ, r.grow g1, (An.bind k1).grow g1 fun xs k2 vs E2 H2 g2 s2 =>
    k2 _ E2 H2 (g1.trans g2) (.cons (m _ _ _ _ _ _ s1 g2) s2)⟩⟩
theorem DnA.of {E : Hp} : ∀ {ds : List Dt} {vs : List V}, Paired (fun v d => Dn K cl E v d) vs ds → DnA K cl E vs ds
  | _, _, .nil => .nil
  | _, _, .cons h r => .cons h (DnA.of r)
theorem WkA.full {E H : Hp} (s : Sub E H) : ∀ {ds : List Dt} {vs : List V}, Paired (Wk K cl E H) vs ds → DnA K cl H vs ds
  | _, _, .nil => .nil
  | _, _, .cons h r => .cons (h.full s) (WkA.full s r)

/-! ### displays -/
def lim : Nat := 16000000
theorem lim_le {n : Nat} (h : n ≤ lim) : n ≤ sizeLine := by rw [sizeLine_eq]; unfold lim at h; omega
theorem lim_lt {n : Nat} (h : n ≤ lim) : n < sizeLine := by rw [sizeLine_eq]; unfold lim at h; omega
@[simp] def cLst (fa : Av) : Ev := fun ρ => (fa ρ).bind fun ds => if ds.length ≤ lim then .ok (.lst ds) else .st
@[simp] def cTup (fa : Av) : Ev := fun ρ => (fa ρ).bind fun ds => if ds.length ≤ lim then .ok (.tup ds) else .st
theorem An.ite {α : Type} {σ : L2.St} {E H : Hp} {q : Prop} [Decidable q] {r : Rs α} {k : α → Prop} (h : An cl W σ E H (if q then r else .st) k) : q ∧ An cl W σ E H r k := by
  split at h
  · rename_i hq; exact ⟨hq, h⟩
  · exact h.elim
theorem new_lst {E H : Hp} {vs : List V} {ds : List Dt} {l : Addr} (s : Sub E H) (h : DnA K cl E vs ds) (n : H l = none) : Gr E H E (upd H l (.lst vs)) ∧ Nw K cl H E (upd H l (.lst vs)) (.ref l) (.lst ds) :=
  ⟨Gr.one s n fun z => z, l, rfl, n, s.fresh n, vs, upd_same, h⟩
theorem new_tup {E H : Hp} {vs : List V} {ds : List Dt} {l : Addr} (s : Sub E H) (h : DnA K cl E vs ds) (n : H l = none) : Gr E H (upd E l (.tup vs)) (upd H l (.tup vs)) ∧ Dn K cl (upd E l (.tup vs)) (.ref l) (.tup ds) :=
  ⟨Gr.both s n, .tup (SqT.of upd_same) (h.mono (Sub.up (s.fresh n)))⟩
theorem n_lst (ha : PA X es (tA K cl W (fun E _ v d => Dn K cl E v d) fa)) : PE X (.List es pos) (tN K cl W (cLst fa)) :=
  PE.imp (pe_lst ha) fun σ H Q ⟨E0, H0, E, ρ, r, an⟩ => ⟨E0, H0, E, ρ, r, (An.bind an).imp fun ds k vs E' H' g' s => by
    obtain ⟨hl, k⟩ := An.ite k
    have s := DnA.of s
    refine ⟨by rw [s.length]; exact lim_le hl, fun l n => ?_⟩
    obtain ⟨g2, w⟩ := new_lst g'.eh s n
    exact k _ _ _ (g'.trans g2) (coN _ _ _ _ _ _ _ _ g' w)⟩
theorem d_tup {x1} (ha : PA X es (tA K cl W (fun E _ v d => Dn K cl E v d) fa)) : PE X (.Tuple es x1 pos) (tD K cl W (cTup fa)) :=
  PE.imp (pe_tup ha) fun σ H Q ⟨E0, H0, E, ρ, r, an⟩ => ⟨E0, H0, E, ρ, r, (An.bind an).imp fun ds k vs E' H' g' s => by
    obtain ⟨hl, k⟩ := An.ite k
    have s := DnA.of s
    refine ⟨by rw [s.length]; exact lim_le hl, fun l n => ?_⟩
    obtain ⟨g2, w⟩ := new_tup g'.eh s n
    exact k _ _ _ (g'.trans g2) w⟩

/-! ### calls of defs -/
variable (K cl) in
def spX (F : List Dt → Rs Dt) : Sp := fun vs H Q E => ∃ E1 ds, Sb E1 H ∧ DnA K cl E1 vs ds ∧ match F ds with
  | .st => False
  | .ok d => ∀ v E' H', Gr E1 H E' H' → Dn K cl E' v d → Q v H'
  | .ex n => ∀ E' H', Gr E1 H E' H' → E (.ref (cl n)) none H'
/-- the def x of the text keeps what F says, at level k -/
structure Fn (P : Program) (w : World) (K : PySem.W.Frag) (mg : Str → Option Value) (base : Heap) (cl : Str → Addr) (x : Str) (k : Nat) (ps : List Str) (F : List Dt → Rs Dt) : Prop where
  ex : ∃ (q : Addr) (fd : FuncData), FnOk P w K mg base (L2.CX P w) k q fd ps (spX K cl F) ∧ mg x = some (.ref q) ∧ PySem.W.keepIn K (.ref q) = true ∧ Binds K fd ps [] ∧ ∃ oc od osl, K.lookup q = some ⟨oc, od, .func fd, osl⟩
@[simp] def cCall (F : List Dt → Rs Dt) (fa : Av) : Ev := fun ρ => (fa ρ).bind F
/-- .. with arguments that the def doesn't keep -/
@[simp] def cCallW (F : List Dt → Rs Dt) (fa : Av) : Ev := fun ρ => (fa ρ).bind fun ds => (F ds).bind fun d => if imm d = true then .ok d else .st
theorem d_call {n : Str} {k : Nat} {ps : List Str} {F : List Dt → Rs Dt} (G : Fn X.prog X.w X.K X.mg X.base cl n k ps F) (hr : Room k X.A) (tk : Takes X W) (hg : Gl X n) (ha : PA X (e :: es) (tA X.K cl W (fun E _ v d => Dn X.K cl E v d) fa))
    (hdb : (n == ("__debug__" : Str)) = false := by decide) (he : starEach (e :: es) X.env = (false, eval e X.env) :: starEach es X.env := by rfl) (hpl : (backTo pos (starEach es X.env)).any (·.1) = false := by rfl) :
    PE X (.Call (.Name n p) (e :: es) [] pos) (tD X.K cl W (cCall F fa)) := by
  obtain ⟨q, fd, G, hm, hk, hb, _⟩ := G.ex
  refine PE.imp (pe_callS G hr hg hm hk hb (fun σ => passAt tk σ) ha hdb he hpl) fun σ H Q ⟨E0, H0, E, ρ, r, an⟩ => ⟨E0, H0, E, ρ, r, (An.bind an).imp fun ds k vs E' H' g' s => ?_⟩
  refine ⟨E', ds, g'.sb r.sb, DnA.of s, ?_⟩
  unfold An at k
  split at k
  · exact k.elim
  · rename_i d q; rw [q]; exact fun v E2 H2 g2 s2 => k v E2 H2 (g'.trans g2) s2
  · rename_i m q; rw [q]; exact fun E2 H2 g2 => k E2 H2 (g'.trans g2)
theorem w_call {n : Str} {k : Nat} {ps : List Str} {F : List Dt → Rs Dt} (G : Fn X.prog X.w X.K X.mg X.base cl n k ps F) (hr : Room k X.A) (tk : Takes X W) (hg : Gl X n) (ha : PA X (e :: es) (tA X.K cl W (Wk X.K cl) fa))
    (hdb : (n == ("__debug__" : Str)) = false := by decide) (he : starEach (e :: es) X.env = (false, eval e X.env) :: starEach es X.env := by rfl) (hpl : (backTo pos (starEach es X.env)).any (·.1) = false := by rfl) :
    PE X (.Call (.Name n p) (e :: es) [] pos) (tD X.K cl W (cCallW F fa)) := by
  obtain ⟨q, fd, G, hm, hk, hb, _⟩ := G.ex
  refine PE.imp (pe_callS G hr hg hm hk hb (fun σ => passAt tk σ) ha hdb he hpl) fun σ H Q ⟨E0, H0, E, ρ, r, an⟩ => ⟨E0, H0, E, ρ, r, (An.bind an).imp fun ds k vs E' H' g' s => ?_⟩
  have sb := g'.sb r.sb
  refine ⟨H', ds, Sb.refl H', WkA.full g'.eh s, ?_⟩
  cases q : F ds with
  | st => rw [q] at k; exact k.elim
  | ok d =>
    rw [q] at k
    obtain ⟨hi, k⟩ := An.ite k
    exact fun v E2 H2 g2 s2 => k v _ H2 (g'.trans (Gr.back sb g2)) (back_imm sb g2 s2 hi)
  | ex m =>
    rw [q] at k
    exact fun E2 H2 g2 => k _ H2 (g'.trans (Gr.back sb g2))

/-! ### built-ins -/
variable {id T : String} {n : Str}
/-- a built-in def by what it does to data -/
theorem cb_ {r : List V → Hp → VK → Prop} {o : List Dt → Option Dt} {R : Rel} (co : Co S)
    (hr : ∀ E H vs xs z, Sb E H → Paired (R E H) vs xs → o xs = some z → ∀ Q : VK, (∀ u E' H', Gr E H E' H' → S E H E' H' u z → Q u H') → r vs H Q) (σ : L2.St) (H : Hp) (Q : VK)
    (h : tG K cl W S (fun ρ => (fa ρ).bind fun xs => ofO (o xs)) σ H Q) : tCB r (tA K cl W R fa) σ H Q := by
  obtain ⟨E0, H0, E, ρ, rl, a⟩ := h
  refine ⟨E0, H0, E, ρ, rl, An.imp (An.bind a) fun xs a1 vs E1 H1 g1 s1 => ?_⟩
  obtain ⟨z, hz, k⟩ := An.ofO a1
  exact hr E1 H1 vs xs z (rl.grow g1).sb s1 hz Q fun u E' H' g3 s3 => k u E' H' (g1.trans g3) (co _ _ _ _ _ _ _ _ g1 s3)
@[simp] def cB1 (o : List Dt → Option Dt) (fa : Av) : Ev := fun ρ => (fa ρ).bind fun xs => ofO (o xs)
@[simp] def oLen : List Dt → Option Dt
  | [.lst ds] => some (.int ds.length)
  | [.tup ds] => some (.int ds.length)
  | [.str x] => if x.length ≤ sizeLine then some (.int x.length) else none
  | [.scr ns] => some (.int ns.length)
  | _ => none
theorem d_len (hg : Gl X "len") (hm : X.mg "len" = none) (ha : PA X (e :: es) (tA X.K cl W (Wk X.K cl) fa))
    (he : starEach (e :: es) X.env = (false, eval e X.env) :: starEach es X.env := by rfl) (hpl : (backTo pos (starEach es X.env)).any (·.1) = false := by rfl) :
    PE X (.Call (.Name "len" p) (e :: es) [] pos) (tD X.K cl W (cB1 oLen fa)) :=
  PE.imp (pe_callB call_len hg hm PySem.boot_len ha (by decide) (by decide) he hpl) (cb_ coR fun E H vs xs z sb h e Q k => by
    unfold oLen at e
    split at e
    · rename_i ds
      cases h with
      | cons h1 h2 =>
        cases h2; cases e
        cases h1.full sb.sub with
        | lst hs hr => exact ⟨_, ds.length, rfl, .inl ⟨_, SqL.of hs, hr.length.symm⟩, same_ sb (.int _) k⟩
    · rename_i ds
      cases h with
      | cons h1 h2 =>
        cases h2; cases e
        cases h1.full sb.sub with
        | tup hs hr => exact ⟨_, ds.length, rfl, .inr ⟨_, hs, hr.length.symm⟩, same_ sb (.int _) k⟩
    · rename_i y
      cases h with
      | cons h1 h2 =>
        split at e
        · rename_i hy
          cases h2; cases e
          cases h1.full sb.sub with
          | str => exact ⟨_, y.length, rfl, ⟨hy, rfl⟩, same_ sb (.int _) k⟩
        · cases e
    · rename_i ns
      cases h with
      | cons h1 h2 =>
        cases h2; cases e
        cases h1.full sb.sub with
        | scr hs => exact ⟨_, ns.length, rfl, .inl ⟨_, hs, by simp⟩, same_ sb (.int _) k⟩
    · cases e)
/-- isinstance(x, T), T a built-in type -/
@[simp] def tyD : Dt → Option String
  | .non => some "NoneType"
  | .bl _ => some "bool"
  | .int _ => some "int"
  | .str _ => some "str"
  | .lst _ => some "list"
  | .tup _ => some "tuple"
  | .dct _ => some "dict"
  | .obj _ _ => none
  | .scr _ => none
def oIsi (T : String) (x : Dt) : Option Dt := (tyD x).bind fun s => (kitB s T).map .bl
theorem tyX_of {E H : Hp} {v : V} {d : Dt} {s : String} (h : Dn K cl H v d) (e : tyD d = some s) : TyX K H v (.type s) := by
  cases h with
  | non => cases e; exact .base .non
  | bl b => cases e; exact .base (.bl b)
  | int b => cases e; exact .base (.int b)
  | str b => cases e; exact .base (.str b)
  | lst hs hr => cases e; exact .base (.lst hs)
  | tup hs hr =>
    cases e
    rcases hs with (hs | ⟨o, hs⟩) | ⟨o, its, m, hs, hc, _⟩
    · exact .base (.tup hs)
    · exact .fTuple hs
    · exact .kTuple hs hc
  | dct hs hr => cases e; exact .base (.dT hs)
  | obj hs hr => cases e
  | scr hs => cases e
def tIsi0 (K : PySem.W.Frag) (T : String) (te : TE) : TE := tCB (rIsi K) (tCons te (tCons (tC (.ty T)) tNil))
theorem d_isi (hg : Gl X "isinstance") (hm : X.mg "isinstance" = none) (hgT : Gl X n) (hmT : X.mg n = none) (hvT : bootBuiltins n = some (.type T)) (ha : PE X e (tW X.K cl W f))
    (hnT : n ≠ "__name__" := by decide) (hdT : (n == ("__debug__" : Str)) = false := by decide)
    (hs1 : starEach [.Name n p2] X.env = (false, eval (.Name n p2) X.env) :: starEach [] X.env := by rfl)
    (he : starEach [e, .Name n p2] X.env = (false, eval e X.env) :: starEach [.Name n p2] X.env := by rfl) (hpl : (backTo pos (starEach [.Name n p2] X.env)).any (·.1) = false := by rfl) :
    PE X (.Call (.Name "isinstance" p) [e, .Name n p2] [] pos) (tD X.K cl W (c1 (oIsi T) f)) :=
  PE.imp (pe_callB call_isi hg hm (by decide +kernel) (pa_cons ha (pa_cons (pe_bltn hgT hmT hvT (v := .ty T) rfl hnT hdT) pa_nil hs1) he) (by decide) (by decide) he hpl) fun σ H Q ⟨E0, H0, E, ρ, r, an⟩ =>
    ⟨E0, H0, E, ρ, r, (An.bind an).imp fun x k v E' H' g' s => by
      obtain ⟨z, hz, k⟩ := An.ofO k
      have s := s.full g'.eh
      unfold oIsi at hz
      cases q : tyD x with
      | none => rw [q] at hz; cases hz
      | some ty =>
        rw [q] at hz
        have hz : (kitB ty T).map Dt.bl = some z := hz
        cases q2 : kitB ty T with
        | none => rw [q2] at hz; cases hz
        | some b =>
          rw [q2] at hz; cases hz
          exact ⟨v, .ty T, .type ty, .type T, b, rfl, .ty T, tyX_of (E := E') s q, kit_ty q2, k _ E' H' g' (.bl b)⟩⟩
/-! ### items -/
@[simp] def oIx : Dt → Dt → Option Dt
  | .lst ds, .int i => atI ds i
  | .tup ds, .int i => atI ds i
  | .str z, .int i => if z.length ≤ sizeLine then (atI z.cps.toList i).map fun c => .str ⟨#[c]⟩ else none
  | .scr ns, .int i => (atI ns i).map .int
  | _, _ => none
theorem DnA.at {E : Hp} {ds : List Dt} {vs : List V} {i : Int} {d : Dt} (h : DnA K cl E vs ds) (e : atI ds i = some d) : ∃ v, atI vs i = some v ∧ Dn K cl E v d := by
  unfold atI at e ⊢
  rw [h.length]
  cases q : ixN ds.length i with
  | none => rw [q] at e; cases e
  | some j =>
    rw [q] at e
    exact h.get e
theorem Wk.items {E H : Hp} {v : V} {ds : List Dt} (h : Wk K cl E H v (.lst ds)) (s : Sub E H) : ∃ a vs, v = .ref a ∧ SqL K H a vs ∧ DnA K cl E vs ds := by
  rcases h with h | ⟨a, rfl, _, vs, h1, h2⟩
  · cases h with
    | lst hs hr => exact ⟨_, _, rfl, SqL.of (s _ _ hs), hr⟩
  · exact ⟨a, vs, rfl, SqL.of h1, h2⟩
theorem Wk.itemsT {E H : Hp} {v : V} {ds : List Dt} (h : Wk K cl E H v (.tup ds)) (s : Sub E H) : ∃ a vs, v = .ref a ∧ SqT K E a vs ∧ DnA K cl E vs ds := by
  rcases h with h | ⟨a, rfl, _, h⟩
  · cases h with
    | tup hs hr => exact ⟨_, _, rfl, hs, hr⟩
  · exact h.elim
theorem atI_ints {ns : List Int} {i c : Int} (q : atI ns i = some c) : atI (ns.map V.int) i = some (.int c) := by
  unfold atI at q ⊢
  rw [List.length_map]
  cases z : ixN ns.length i with
  | none => rw [z] at q; cases q
  | some j =>
    rw [z] at q
    show (ns.map V.int)[j]? = _
    rw [List.getElem?_map, show ns[j]? = some c from q]; rfl
theorem d_ix (ha : PE X a (tW X.K cl W f)) (hb : PE X b (tD X.K cl W g)) (hs : PlainIx b) : PE X (.Subscript a b pos) (tD X.K cl W (c2 oIx f g)) :=
  PE.imp (pe_ix ix_seq ha hb hs) (bin_ moW coR fun E H v w x y z sb h1 h2 e Q k => by
    unfold oIx at e
    split at e
    · cases h2
      obtain ⟨a, vs, rfl, hs, hr⟩ := h1.items sb.sub
      obtain ⟨u, hu, hd⟩ := hr.at e
      exact .inl ⟨a, vs, _, u, rfl, rfl, hs, hu, same_ sb hd k⟩
    · cases h2
      obtain ⟨a, vs, rfl, hs, hr⟩ := h1.itemsT sb.sub
      obtain ⟨u, hu, hd⟩ := hr.at e
      exact .inr (.inl ⟨a, vs, _, u, rfl, rfl, sb.sub.sqT hs, hu, same_ sb hd k⟩)
    · split at e
      · rename_i z' i hz
        cases h2
        cases q : atI z'.cps.toList i with
        | none => rw [q] at e; cases e
        | some c =>
          rw [q] at e; cases e
          cases h1.full sb.sub with
          | str => exact .inr (.inr ⟨_, _, c, rfl, rfl, hz, q, same_ sb (.str _) k⟩)
      · cases e
    · rename_i ns i
      cases h2
      cases q : atI ns i with
      | none => rw [q] at e; cases e
      | some c =>
        rw [q] at e; cases e
        cases h1.full sb.sub with
        | scr hs => exact .inl ⟨_, _, _, _, rfl, rfl, hs, atI_ints q, same_ sb (.int _) k⟩
    · cases e)
end
end Dl
namespace Dl
open PySem L2
section
variable {K : PySem.W.Frag} {cl : Str → Addr} {E0 H0 E H E' H' : Hp} {σ : L2.St} {ρ : List Sl} {a : Addr} {v : V} {d : Dt} {i : Nat}
theorem Rl.setV (r : Rl K cl E0 H0 E H σ ρ) (h : Dn K cl E v d) (i : Nat) : Rl K cl E0 H0 E H (σ.set i (some v)) (ρ.set i (.va d)) where
  sb0 := r.sb0
  gr := r.gr
  len := by simp [r.len]
  va := fun j e q => by
    by_cases hj : i = j
    · subst hj
      by_cases hl : i < ρ.length
      · rw [List.getElem?_set_self hl] at q; cases q
        exact ⟨v, by rw [List.getElem?_set_self (by rw [← r.len]; exact hl)], h⟩
      · rw [List.getElem?_eq_none (by simpa using hl)] at q; cases q
    · rw [List.getElem?_set_ne hj] at q ⊢; exact r.va j e q
  ow := fun j e q => by
    by_cases hj : i = j
    · subst hj
      by_cases hl : i < ρ.length
      · rw [List.getElem?_set_self hl] at q; cases q
      · rw [List.getElem?_eq_none (by simpa using hl)] at q; cases q
    · rw [List.getElem?_set_ne hj] at q ⊢; exact r.ow j e q
  ne := fun j k e1 e2 b hjk q1 q2 => by
    have nj : i ≠ j := fun z => by
      subst z
      by_cases hl : i < ρ.length
      · rw [List.getElem?_set_self hl] at q1; cases q1
      · rw [List.getElem?_eq_none (by simpa using hl)] at q1; cases q1
    have nk : i ≠ k := fun z => by
      subst z
      by_cases hl : i < ρ.length
      · rw [List.getElem?_set_self hl] at q2; cases q2
      · rw [List.getElem?_eq_none (by simpa using hl)] at q2; cases q2
    rw [List.getElem?_set_ne nj] at q1 ⊢
    rw [List.getElem?_set_ne nk] at q2 ⊢
    exact r.ne j k e1 e2 b hjk q1 q2
theorem Rl.no (r : Rl K cl E0 H0 E H σ ρ) (i : Nat) : Rl K cl E0 H0 E H σ (ρ.set i .no) where
  sb0 := r.sb0
  gr := r.gr
  len := by simp [r.len]
  va := fun j e q => by
    by_cases hj : i = j
    · subst hj
      by_cases hl : i < ρ.length
      · rw [List.getElem?_set_self hl] at q; cases q
      · rw [List.getElem?_eq_none (by simpa using hl)] at q; cases q
    · rw [List.getElem?_set_ne hj] at q; exact r.va j e q
  ow := fun j e q => by
    by_cases hj : i = j
    · subst hj
      by_cases hl : i < ρ.length
      · rw [List.getElem?_set_self hl] at q; cases q
      · rw [List.getElem?_eq_none (by simpa using hl)] at q; cases q
    · rw [List.getElem?_set_ne hj] at q; exact r.ow j e q
  ne := fun j k e1 e2 b hjk q1 q2 => by
    have nj : i ≠ j := fun z => by
      subst z
      by_cases hl : i < ρ.length
      · rw [List.getElem?_set_self hl] at q1; cases q1
      · rw [List.getElem?_eq_none (by simpa using hl)] at q1; cases q1
    have nk : i ≠ k := fun z => by
      subst z
      by_cases hl : i < ρ.length
      · rw [List.getElem?_set_self hl] at q2; cases q2
      · rw [List.getElem?_eq_none (by simpa using hl)] at q2; cases q2
    rw [List.getElem?_set_ne nj] at q1
    rw [List.getElem?_set_ne nk] at q2
    exact r.ne j k e1 e2 b hjk q1 q2
@[simp] def fgt (fg : List Nat) (ρ : List Sl) : List Sl := fg.foldl (fun ρ i => ρ.set i .no) ρ
theorem Rl.fgt : ∀ {fg : List Nat} {ρ : List Sl}, Rl K cl E0 H0 E H σ ρ → Rl K cl E0 H0 E H σ (fgt fg ρ)
  | [], _, r => r
  | i :: fg, ρ, r => Rl.fgt (fg := fg) (r.no i)
theorem Rl.dropσ (r : Rl K cl E0 H0 E H σ ρ) (h : ∀ d, ρ[i]? ≠ some (.va d)) (h' : ∀ d, ρ[i]? ≠ some (.ow d)) : Rl K cl E0 H0 E H (σ.set i none) ρ where
  sb0 := r.sb0
  gr := r.gr
  len := by simp [r.len]
  va := fun j e q => by
    have : i ≠ j := fun z => by subst z; exact h _ q
    rw [List.getElem?_set_ne this]; exact r.va j e q
  ow := fun j e q => by
    have : i ≠ j := fun z => by subst z; exact h' _ q
    rw [List.getElem?_set_ne this]; exact r.ow j e q
  ne := fun j k e1 e2 b hjk q1 q2 => by
    have nj : i ≠ j := fun z => by subst z; exact h' _ q1
    have nk : i ≠ k := fun z => by subst z; exact h' _ q2
    rw [List.getElem?_set_ne nj, List.getElem?_set_ne nk]
    exact r.ne j k e1 e2 b hjk q1 q2
theorem fgt_len : ∀ (fg : List Nat) (ρ : List Sl), (fgt fg ρ).length = ρ.length
  | [], _ => rfl
  | i :: fg, ρ => by
    show (fgt fg (ρ.set i .no)).length = _
    rw [fgt_len fg]; simp
theorem fgt_keep : ∀ (fg : List Nat) (ρ : List Sl) (i : Nat), (ρ[i]? = some .no ∨ ρ[i]? = none) → ((fgt fg ρ)[i]? = some .no ∨ (fgt fg ρ)[i]? = none)
  | [], _, _, h => h
  | j :: fg, ρ, i, h => by
    refine fgt_keep fg (ρ.set j .no) i ?_
    by_cases hj : j = i
    · subst hj
      by_cases hl : j < ρ.length
      · rw [List.getElem?_set_self hl]; exact .inl rfl
      · rw [List.getElem?_eq_none (by simpa using hl)]; exact .inr rfl
    · rw [List.getElem?_set_ne hj]; exact h
theorem fgt_in : ∀ (fg : List Nat) (ρ : List Sl) (i : Nat), i ∈ fg → ((fgt fg ρ)[i]? = some .no ∨ (fgt fg ρ)[i]? = none)
  | j :: fg, ρ, i, h => by
    by_cases hj : i = j
    · subst hj
      refine fgt_keep fg _ i ?_
      by_cases hl : i < ρ.length
      · rw [List.getElem?_set_self hl]; exact .inl rfl
      · rw [List.getElem?_eq_none (by simpa using hl)]; exact .inr rfl
    · rcases List.mem_cons.mp h with q | q
      · exact absurd q hj
      · exact fgt_in fg _ i q
  | [], _, _, h => nomatch h
/-- the block's names are wiped -/
theorem Rl.wipe (r : Rl K cl E0 H0 E H σ ρ) : ∀ (fg vs : List Nat), (∀ i ∈ vs, i ∈ fg) → Rl K cl E0 H0 E H (wipe σ vs) (Dl.fgt fg ρ)
  | fg, [], _ => r.fgt
  | fg, i :: vs, h => by
    have q := Rl.wipe r fg vs fun j hj => h j (List.mem_cons_of_mem _ hj)
    have k := fgt_in fg ρ i (h i List.mem_cons_self)
    unfold L2.wipe
    exact q.dropσ (fun d e => by rcases k with k | k <;> rw [k] at e <;> cases e) fun d e => by rcases k with k | k <;> rw [k] at e <;> cases e
/-- a new owned thing at slot i -/
theorem Rl.setO (r : Rl K cl E0 H0 E H σ ρ) (g : Gr E H E' H') (w : Nw K cl H E' H' v d) (i : Nat) : Rl K cl E0 H0 E' H' (σ.set i (some v)) (ρ.set i (.ow d)) := by
  obtain ⟨a, rfl, n, n', o⟩ := w
  have r1 := (r.grow g).no i
  have n0 : H0 a = none := r.gr.fresh n
  have away : ∀ (j : Nat) e, ρ[j]? = some (.ow e) → σ[j]? ≠ some (some (.ref a)) := fun j e q z => by
    obtain ⟨b, h1, _, _, h4⟩ := r.ow j e q
    rw [z] at h1; cases h1
    obtain ⟨u, hu, _⟩ := h4.there
    rw [n] at hu; cases hu
  have r0 := r.grow g
  refine ⟨r.sb0, r0.gr, by simp [r.len], fun j e q => ?_, fun j e q => ?_, fun j k e1 e2 b hjk q1 q2 => ?_⟩
  · by_cases hj : i = j
    · subst hj
      by_cases hl : i < ρ.length
      · rw [List.getElem?_set_self hl] at q; cases q
      · rw [List.getElem?_eq_none (by simpa using hl)] at q; cases q
    · rw [List.getElem?_set_ne hj] at q ⊢; exact r0.va j e q
  · by_cases hj : i = j
    · subst hj
      by_cases hl : i < ρ.length
      · rw [List.getElem?_set_self hl] at q; cases q
        exact ⟨a, List.getElem?_set_self (by rw [← r.len]; exact hl), n0, n', o⟩
      · rw [List.getElem?_eq_none (by simpa using hl)] at q; cases q
    · rw [List.getElem?_set_ne hj] at q ⊢; exact r0.ow j e q
  · by_cases hj : i = j
    · subst hj
      have hk : i ≠ k := hjk
      rw [List.getElem?_set_ne hk] at q2 ⊢
      intro q3
      by_cases hl : i < σ.length
      · rw [List.getElem?_set_self hl] at q3; cases q3
        exact away k e2 q2
      · rw [List.getElem?_eq_none (by simpa using hl)] at q3; cases q3
    · rw [List.getElem?_set_ne hj] at q1 ⊢
      by_cases hk : i = k
      · subst hk
        intro q3 q4
        by_cases hl : i < σ.length
        · rw [List.getElem?_set_self hl] at q4; cases q4
          exact away j e1 q1 q3
        · rw [List.getElem?_eq_none (by simpa using hl)] at q4; cases q4
      · rw [List.getElem?_set_ne hk] at q2 ⊢
        exact r.ne j k e1 e2 b hjk q1 q2
/-- the owned thing of slot i is changed -/
theorem Rl.write {o : HO} {d' : Dt} (r : Rl K cl E0 H0 E H σ ρ) (hi : ρ[i]? = some (.ow d)) (hs : σ[i]? = some (some (.ref a))) (no : ¬ Imm o) (w : Ow K cl E (upd H a o) a d') : Rl K cl E0 H0 E (upd H a o) σ (ρ.set i (.ow d')) := by
  obtain ⟨b, h1, h2, h3, h4⟩ := r.ow i d hi
  rw [hs] at h1; cases h1
  have hl : i < ρ.length := (List.getElem?_eq_some_iff.mp hi).1
  have sub : Sub E (upd H a o) := fun x u e => by
    have : x ≠ a := fun z => by rw [z, h3] at e; cases e
    rw [upd_ne this]; exact r.gr.eh x u e
  refine ⟨r.sb0, ⟨r.gr.ee, fun x u e => ?_, sub, r.gr.nw, fun x u q1 q2 q3 => ?_⟩, by simp [r.len], fun j e q => ?_, fun j e q => ?_, fun j k e1 e2 b hjk q1 q2 => ?_⟩
  · have : x ≠ a := fun z => by rw [z, h2] at e; cases e
    rw [upd_ne this]; exact r.gr.hh x u e
  · by_cases hx : x = a
    · subst hx; rw [upd_same] at q2; cases q2; exact absurd q3 no
    · rw [upd_ne hx] at q2; exact r.gr.im x u q1 q2 q3
  · by_cases hj : i = j
    · subst hj; rw [List.getElem?_set_self hl] at q; cases q
    · rw [List.getElem?_set_ne hj] at q; exact r.va j e q
  · by_cases hj : i = j
    · subst hj; rw [List.getElem?_set_self hl] at q; cases q
      exact ⟨a, hs, h2, h3, w⟩
    · rw [List.getElem?_set_ne hj] at q
      obtain ⟨c, k1, k2, k3, k4⟩ := r.ow j e q
      have hca : c ≠ a := fun z => by
        subst z; exact r.ne i j d e c hj hi q hs k1
      refine ⟨c, k1, k2, k3, ?_⟩
      cases e with
      | lst ds => obtain ⟨vs, p1, p2⟩ := k4; exact ⟨vs, by rw [upd_ne hca]; exact p1, p2⟩
      | dct ds => obtain ⟨vs, p1, p2⟩ := k4; exact ⟨vs, by rw [upd_ne hca]; exact p1, p2⟩
      | obj c' ds => obtain ⟨dx, vs, p1, p2⟩ := k4; exact ⟨dx, vs, by rw [upd_ne hca]; exact p1, p2⟩
      | _ => exact k4.elim
  · have q1' : ∃ e1', ρ[j]? = some (.ow e1') := by
      by_cases hj : i = j
      · subst hj; exact ⟨_, hi⟩
      · rw [List.getElem?_set_ne hj] at q1; exact ⟨_, q1⟩
    have q2' : ∃ e2', ρ[k]? = some (.ow e2') := by
      by_cases hk : i = k
      · subst hk; exact ⟨_, hi⟩
      · rw [List.getElem?_set_ne hk] at q2; exact ⟨_, q2⟩
    obtain ⟨_, q1'⟩ := q1'
    obtain ⟨_, q2'⟩ := q2'
    exact r.ne j k _ _ b hjk q1' q2'
/-- from now on it isn't changed -/
@[simp] def fz (i : Nat) (ρ : List Sl) : List Sl := match ρ[i]? with
  | some (.ow d) => ρ.set i (.va d)
  | _ => ρ
theorem Rl.fz (r : Rl K cl E0 H0 E H σ ρ) (i : Nat) : ∃ E', Rl K cl E0 H0 E' H σ (fz i ρ) ∧ Sub E E' := by
  unfold Dl.fz
  split
  · rename_i d hi
    obtain ⟨a, h1, h2, h3, h4⟩ := r.ow i d hi
    obtain ⟨o, ho, hd⟩ := h4.fix h3
    have hl : i < ρ.length := (List.getElem?_eq_some_iff.mp hi).1
    have sE : Sub E (upd E a o) := Sub.up h3
    refine ⟨upd E a o, ⟨r.sb0, ⟨r.gr.ee.trans sE, r.gr.hh, fun x u e => ?_, fun x q1 q2 => ?_, fun x u q1 q2 q3 => sE x u (r.gr.im x u q1 q2 q3)⟩, by simp [r.len], fun j e q => ?_, fun j e q => ?_, fun j k e1 e2 b hjk q1 q2 => ?_⟩, sE⟩
    · by_cases hx : x = a
      · subst hx; rw [upd_same] at e; rw [ho, e]
      · rw [upd_ne hx] at e; exact r.gr.eh x u e
    · have : x ≠ a := fun z => by rw [z] at q1; exact q1 h2
      rw [upd_ne this]; exact r.gr.nw x q1 q2
    · by_cases hj : i = j
      · subst hj; rw [List.getElem?_set_self hl] at q; cases q
        exact ⟨_, h1, hd⟩
      · rw [List.getElem?_set_ne hj] at q
        obtain ⟨v, k1, k2⟩ := r.va j e q
        exact ⟨v, k1, k2.mono sE⟩
    · by_cases hj : i = j
      · subst hj; rw [List.getElem?_set_self hl] at q; cases q
      · rw [List.getElem?_set_ne hj] at q
        obtain ⟨c, k1, k2, k3, k4⟩ := r.ow j e q
        have hca : c ≠ a := fun z => by
          subst z; exact r.ne i j d e c hj hi q h1 k1
        exact ⟨c, k1, k2, by rw [upd_ne hca]; exact k3, k4.mono sE (Sub.refl _)⟩
    · have nj : i ≠ j := fun z => by subst z; rw [List.getElem?_set_self hl] at q1; cases q1
      have nk : i ≠ k := fun z => by subst z; rw [List.getElem?_set_self hl] at q2; cases q2
      rw [List.getElem?_set_ne nj] at q1
      rw [List.getElem?_set_ne nk] at q2
      exact r.ne j k e1 e2 b hjk q1 q2
  · exact ⟨E, r, Sub.refl _⟩
end

section
variable {K : PySem.W.Frag} {cl : Str → Addr} {X : Cx} {W : L2.WX} {R : Rel} {S : Rl4} {a b c e x tg iter : Expr} {es rest : List Expr} {f : Ev} {t : Tv} {g h : Sv} {fa : Av} {pos p p2 : Pos} {st : Stmt} {sts body : List Stmt} {D : Ends} {E0 H0 E H : Hp}
@[simp] def rob {α : Type} (r : Rs α) (ρ : List Sl) (k : α → Ro) : Ro := match r with
  | .st => .st
  | .ok a => k a
  | .ex n => .ex n ρ
theorem rob_an {α : Type} {σ : L2.St} {ρ : List Sl} {r : Rs α} {k : α → Ro} (rl : Rl K cl E0 H0 E H σ ρ) (h : Ros K cl W D E0 H0 E (rob r ρ k)) : An cl W σ E H r fun a => Ros K cl W D E0 H0 E (k a) := by
  cases r with
  | st => exact h
  | ok a => exact h
  | ex n => exact fun E' H' g => h σ E' H' (rl.grow g) g.ee
theorem Ros.up {E E' : Hp} {r : Ro} (h : Ros K cl W D E0 H0 E r) (s : Sub E E') : Ros K cl W D E0 H0 E' r := by
  cases r with
  | st => exact h
  | nx ρ => exact fun σ' E2 H2 rl s2 => h σ' E2 H2 rl (s.trans s2)
  | bk ρ => exact fun σ' E2 H2 rl s2 => h σ' E2 H2 rl (s.trans s2)
  | ct ρ => exact fun σ' E2 H2 rl s2 => h σ' E2 H2 rl (s.trans s2)
  | rt d => exact h
  | ex n ρ => exact fun σ' E2 H2 rl s2 => h σ' E2 H2 rl (s.trans s2)

/-! ### blocks -/
@[simp] def sNil : Sv := fun ρ => .nx ρ
@[simp] def sSeq (g h : Sv) : Sv := fun ρ => match g ρ with
  | .nx ρ' => h ρ'
  | r => r
theorem ss_nil : PSs X [] (tS K cl W sNil) := PSs.imp pss_nil fun D σ H ⟨E0, H0, E, ρ, r, k⟩ => k σ E H r (Sub.refl _)
theorem ss_one (h1 : PS X st (tS K cl W g)) : PSs X [st] (tS K cl W g) := pss_one h1
theorem ss_cons (h1 : PS X st (tS K cl W g)) (h2 : PSs X sts (tS K cl W h)) : PSs X (st :: sts) (tS K cl W (sSeq g h)) :=
  PSs.imp (pss_cons h1 h2) fun D σ H ⟨E0, H0, E, ρ, r, k⟩ => by
    refine ⟨E0, H0, E, ρ, r, ?_⟩
    unfold sSeq at k
    cases q : g ρ with
    | nx ρ' => rw [q] at k; exact fun σ' E' H' r' s => ⟨E0, H0, E', ρ', r', Ros.up k s⟩
    | st => rw [q] at k; exact k
    | bk _ => rw [q] at k; exact k
    | ct _ => rw [q] at k; exact k
    | rt _ => rw [q] at k; exact k
    | ex _ _ => rw [q] at k; exact k
/-- slots that are changed no more ahead of a statement -/
@[simp] def sFz (i : Nat) (g : Sv) : Sv := fun ρ => g (fz i ρ)
theorem s_fz (i : Nat) (h1 : PS X st (tS K cl W g)) : PS X st (tS K cl W (sFz i g)) :=
  PS.imp h1 fun D σ H ⟨E0, H0, E, ρ, r, k⟩ => by
    obtain ⟨E', r', s⟩ := r.fz i
    exact ⟨E0, H0, E', _, r', Ros.up k s⟩
@[simp] def sFg (fg : List Nat) (g : Sv) : Sv := fun ρ => g (fgt fg ρ)
theorem s_pass : PS X (.Pass pos) (tS K cl W sNil) := PS.imp ps_pass fun D σ H ⟨E0, H0, E, ρ, r, k⟩ => k σ E H r (Sub.refl _)
@[simp] def sBrk : Sv := fun ρ => .bk ρ
@[simp] def sCnt : Sv := fun ρ => .ct ρ
theorem s_brk : PS X (.Break pos) (tS K cl W sBrk) := PS.imp ps_break fun D σ H ⟨E0, H0, E, ρ, r, k⟩ => k σ E H r (Sub.refl _)
theorem s_cnt : PS X (.Continue pos) (tS K cl W sCnt) := PS.imp ps_continue fun D σ H ⟨E0, H0, E, ρ, r, k⟩ => k σ E H r (Sub.refl _)
@[simp] def sExpr (f : Ev) : Sv := fun ρ => rob (f ρ) ρ fun _ => .nx ρ
theorem s_expr (h1 : PE X e (tD K cl W f)) (hs : swapsWith e none pos.line X.env = pure false := by rfl) : PS X (.Expr e pos) (tS K cl W (sExpr f)) :=
  PS.imp (ps_expr h1 hs) fun D σ H ⟨E0, H0, E, ρ, r, k⟩ => ⟨E0, H0, E, ρ, r, (rob_an r k).imp fun d k v E' H' g s => k σ E' H' (r.grow g) g.ee⟩
@[simp] def sRet (f : Ev) : Sv := fun ρ => rob (f ρ) ρ .rt
theorem s_ret (h1 : PE X e (tD K cl W f)) : PS X (.Return (some e) pos) (tS K cl W (sRet f)) :=
  PS.imp (ps_ret h1) fun D σ H ⟨E0, H0, E, ρ, r, k⟩ => ⟨E0, H0, E, ρ, r, (rob_an r k).imp fun d k v E' H' g s => k v E' H' (r.gr.trans g) s⟩
@[simp] def sIf (t : Tv) (g h : Sv) : Sv := fun ρ => rob (t ρ) ρ fun b => cond b (g ρ) (h ρ)
theorem s_if {sa sb : List Stmt} (hc : PT X c (tT K cl W t)) (ha : PSs X sa (tS K cl W g)) (hb : PSs X sb (tS K cl W h)) : PS X (.If c sa sb pos) (tS K cl W (sIf t g h)) :=
  PS.imp (ps_if hc ha hb) fun D σ H ⟨E0, H0, E, ρ, r, k⟩ => ⟨E0, H0, E, ρ, r, (rob_an r k).imp fun b k E' H' g => by
    cases b with
    | true => exact iteT ⟨E0, H0, E', ρ, r.grow g, Ros.up k g.ee⟩
    | false => exact iteF ⟨E0, H0, E', ρ, r.grow g, Ros.up k g.ee⟩⟩
@[simp] def sSet (i : Nat) (f : Ev) : Sv := fun ρ => rob (f ρ) ρ fun d => .nx (ρ.set i (.va d))
@[simp] def sSetN (i : Nat) (f : Ev) : Sv := fun ρ => rob (f ρ) ρ fun d => .nx (ρ.set i (.ow d))
theorem asg_ {i : Nat} (D : Ends) (σ : L2.St) (H : Hp) (q : tS K cl W (sSet i f) D σ H) : tAsg (tD K cl W f) (gName i) D σ H := by
  obtain ⟨E0, H0, E, ρ, r, k⟩ := q
  exact ⟨E0, H0, E, ρ, r, (rob_an r k).imp fun d k v E' H' g s => k _ E' H' ((r.grow g).setV s i) g.ee⟩
theorem asgN_ {i : Nat} (D : Ends) (σ : L2.St) (H : Hp) (q : tS K cl W (sSetN i f) D σ H) : tAsg (tN K cl W f) (gName i) D σ H := by
  obtain ⟨E0, H0, E, ρ, r, k⟩ := q
  exact ⟨E0, H0, E, ρ, r, (rob_an r k).imp fun d k v E' H' g s => k _ E' H' (r.setO g s i) g.ee⟩
variable {n : Str} {pos' : Pos}
theorem s_set {i : Nat} (hN : X.N.Nodup) (hi : X.N[i]? = some n) (hx : Loc X.env.scope n) (he : PE X e (tD K cl W f)) (hs : swapsWith e (some (.Name n pos')) pos.line X.env = pure false := by rfl) (hf : X.fn n = true ∨ X.env.scope.names.lookup n = some .local := by first | exact .inl rfl | exact .inr rfl | assumption) :
    PS X (.Assign [.Name n pos'] e pos) (tS K cl W (sSet i f)) := PS.imp (ps_set hN hi hx he hs hf) asg_
theorem s_setN {i : Nat} (hN : X.N.Nodup) (hi : X.N[i]? = some n) (hx : Loc X.env.scope n) (he : PE X e (tN K cl W f)) (hs : swapsWith e (some (.Name n pos')) pos.line X.env = pure false := by rfl) (hf : X.fn n = true ∨ X.env.scope.names.lookup n = some .local := by first | exact .inl rfl | exact .inr rfl | assumption) :
    PS X (.Assign [.Name n pos'] e pos) (tS K cl W (sSetN i f)) := PS.imp (ps_set hN hi hx he hs hf) asgN_

/-! ### targets -/
abbrev Gv := Dt → List Sl → Option (List Sl)
abbrev Gvs := List Dt → List Sl → Option (List Sl)
variable (K cl) in
/-- a target: what it makes of the slots; vs the places it stores at -/
def tTg (vs : List Nat) (tg : Gv) : TG := fun v σ H Q => ∃ E0 H0 E ρ d ρ', Rl K cl E0 H0 E H σ ρ ∧ Dn K cl E v d ∧ tg d ρ = some ρ' ∧ ∀ σ', Rl K cl E0 H0 E H σ' ρ' → (∀ ws, (∀ i ∈ vs, i ∈ ws) → wipe σ' ws = wipe σ ws) → Q σ' H
variable (K cl) in
def tTgs (vs : List Nat) (tg : Gvs) : TGs := fun us σ H Q => ∃ E0 H0 E ρ ds ρ', Rl K cl E0 H0 E H σ ρ ∧ DnA K cl E us ds ∧ tg ds ρ = some ρ' ∧ ∀ σ', Rl K cl E0 H0 E H σ' ρ' → (∀ ws, (∀ i ∈ vs, i ∈ ws) → wipe σ' ws = wipe σ ws) → Q σ' H
theorem wipe_set {σ : L2.St} {i : Nat} {v : Option V} : ∀ {ws : List Nat}, i ∈ ws → wipe (σ.set i v) ws = wipe σ ws
  | j :: ws, h => by
    unfold wipe
    by_cases hj : i ∈ ws
    · rw [wipe_set hj]
    · have : i = j := (List.mem_cons.mp h).resolve_right hj
      subst this
      have q : ∀ ws : List Nat, (wipe (σ.set i v) ws).set i none = (wipe σ ws).set i none := by
        intro ws
        induction ws with
        | nil => simp [wipe]
        | cons k ws ih =>
          unfold wipe
          by_cases hk : k = i
          · subst hk; simp; exact ih
          · rw [List.set_comm _ _ hk, ih, List.set_comm _ _ hk]
      exact q ws
  | [], h => nomatch h
@[simp] def gN (i : Nat) : Gv := fun d ρ => some (ρ.set i (.va d))
theorem g_name {i : Nat} (hN : X.N.Nodup) (hi : X.N[i]? = some n) (hx : Loc X.env.scope n) (hf : X.fn n = true ∨ X.env.scope.names.lookup n = some .local := by first | exact .inl rfl | exact .inr rfl | assumption) : PG X (.Name n pos) (tTg K cl [i] (gN i)) :=
  PG.imp (pg_name hN hi hx hf) fun v σ H Q ⟨E0, H0, E, ρ, d, ρ', r, h, e, k⟩ => by
    cases e
    exact k _ (r.setV h i) fun ws hw => wipe_set (hw i List.mem_cons_self)
@[simp] def gsNil : Gvs := fun ds ρ => match ds with
  | [] => some ρ
  | _ => none
@[simp] def gsCons (t : Gv) (ts : Gvs) : Gvs := fun ds ρ => match ds with
  | d :: ds => (t d ρ).bind fun ρ' => ts ds ρ'
  | [] => none
theorem gs_nil : PGs X [] (tTgs K cl [] gsNil) :=
  ⟨fun pins s σ H vs us Q I r ⟨E0, H0, E, ρ, ds, ρ', rl, h, e, k⟩ => by
    refine pgs_nil.run pins s σ H vs us Q I r ?_
    cases h with
    | nil => cases e; exact ⟨rfl, k σ rl fun _ _ => rfl⟩
    | cons h1 h2 => cases e⟩
theorem gs_cons {v1 vs : List Nat} {t : Gv} {ts : Gvs} (h1 : PG X e (tTg K cl v1 t)) (h2 : PGs X es (tTgs K cl vs ts))
    (hs : (assignEach (e :: es) X.env).map (·.2) = assign e X.env :: (assignEach es X.env).map (·.2) := by rfl) : PGs X (e :: es) (tTgs K cl (v1 ++ vs) (gsCons t ts)) :=
  ⟨fun pins s σ H ws us Q I r ⟨E0, H0, E, ρ, ds, ρ', rl, h, q, k⟩ => by
    refine (pgs_cons h1 h2 hs).run pins s σ H ws us Q I r ?_
    cases h with
    | nil => cases q
    | @cons v vs' d ds' k1 k2 =>
      have q : (t d ρ).bind (fun ρ' => ts ds' ρ') = some ρ' := q
      cases z : t d ρ with
      | none => rw [z] at q; cases q
      | some ρ1 =>
        rw [z] at q
        exact ⟨_, _, rfl, E0, H0, E, ρ, d, ρ1, rl, k1, z, fun σ1 r1 w1 => ⟨E0, H0, E, ρ1, ds', ρ', r1, k2, q, fun σ2 r2 w2 => k σ2 r2 fun w3 hw => (w2 w3 fun i hi => hw i (List.mem_append_right _ hi)).trans (w1 w3 fun i hi => hw i (List.mem_append_left _ hi))⟩⟩⟩
@[simp] def gT (ts : Gvs) : Gv := fun d ρ => match d with
  | .tup ds => ts ds ρ
  | _ => none
theorem g_tup {vs : List Nat} {ts : Gvs} {k m : Nat} (hc : X.calm = true) (h : PGs X es (tTgs X.K cl vs ts)) (hm : ∀ ds ρ ρ', ts ds ρ = some ρ' → ds.length = m)
    (hn : (assignEach es X.env).length = m := by rfl) (hst : (assignEach es X.env).findIdx? (·.1) = none := by rfl) : PG X (.Tuple es k pos) (tTg X.K cl vs (gT ts)) :=
  PG.imp (pg_tup hc h hn hst) fun v σ H Q ⟨E0, H0, E, ρ, d, ρ', r, hd, e, k⟩ => by
    unfold gT at e
    split at e
    · rename_i ds
      cases hd with
      | tup h1 h2 => exact ⟨_, _, rfl, r.gr.eh.sqT h1, by rw [h2.length]; exact hm _ _ _ e, E0, H0, E, ρ, ds, ρ', r, h2, e, k⟩
    · cases e
theorem gs_len0 : ∀ (ds : List Dt) ρ ρ', gsNil ds ρ = some ρ' → ds.length = 0
  | [], _, _, _ => rfl
  | _ :: _, _, _, h => nomatch h
theorem gs_lenS {t : Gv} {ts : Gvs} {m : Nat} (h : ∀ ds ρ ρ', ts ds ρ = some ρ' → ds.length = m) : ∀ (ds : List Dt) ρ ρ', gsCons t ts ds ρ = some ρ' → ds.length = m + 1
  | [], _, _, q => nomatch q
  | d :: ds, ρ, ρ', q => by
    have q : (t d ρ).bind (fun ρ' => ts ds ρ') = some ρ' := q
    cases z : t d ρ with
    | none => rw [z] at q; cases q
    | some ρ1 => rw [z] at q; simp [h ds ρ1 ρ' q]
@[simp] def sAsg (f : Ev) (tg : Gv) : Sv := fun ρ => rob (f ρ) ρ fun d => match tg d ρ with
  | some ρ' => .nx ρ'
  | none => .st
theorem s_asg {vs : List Nat} {gt : Gv} (he : PE X e (tD K cl W f)) (hg : PG X tg (tTg K cl vs gt)) (hs : swapsWithSole [tg] e pos.line X.env = pure false := by rfl) (hw : swappedStores [tg] e X.env = pure none := by rfl)
    (h1 : (assignEach [tg] X.env).map (·.2) = [assign tg X.env] := by rfl) : PS X (.Assign [tg] e pos) (tS K cl W (sAsg f gt)) :=
  PS.imp (ps_asg he hg hs hw h1) fun D σ H ⟨E0, H0, E, ρ, r, k⟩ => ⟨E0, H0, E, ρ, r, (rob_an r k).imp fun d k v E' H' g s => by
    split at k
    · rename_i ρ' q
      exact ⟨E0, H0, E', ρ, d, ρ', r.grow g, s, q, fun σ' r' _ => k σ' E' H' r' g.ee⟩
    · exact k.elim⟩

/-! ### what is walked -/
structure Walk (K : PySem.W.Frag) (cl : Str → Addr) (J : It) (E : Hp) (ds : List Dt) : Prop where
  go : ∀ i E1 H1, Sub E E1 → Sub E1 H1 → i < ds.length → J.go i H1
  stop : ∀ E1 H1, Sub E E1 → Sub E1 H1 → J.stop ds.length H1
  yld : ∀ i E1 H1 x H2 d, Sub E E1 → Sb E1 H1 → J.yld i H1 x H2 → ds[i]? = some d → ∃ E2, Gr E1 H1 E2 H2 ∧ Dn K cl E2 x d
variable (K cl) in
def tI (W : L2.WX) (src : Av) : TI := fun σ H R => ∃ E0 H0 E ρ, Rl K cl E0 H0 E H σ ρ ∧ An cl W σ E H (src ρ) fun ds => ∀ J E' H', Gr E H E' H' → Walk K cl J E' ds → R J H'
/-- over a list, a tuple -/
@[simp] def cSeq (f : Ev) : Av := fun ρ => (f ρ).bind fun d => match d with
  | .lst ds => .ok ds
  | _ => .st
@[simp] def cSeqT (f : Ev) : Av := fun ρ => (f ρ).bind fun d => match d with
  | .tup ds => .ok ds
  | _ => .st
theorem i_list (h : PE X e (tD X.K cl W f)) : PI X tg e (tI X.K cl W (cSeq f)) :=
  PI.imp (pi_list h) fun σ H R ⟨E0, H0, E, ρ, r, k⟩ => ⟨E0, H0, E, ρ, r, (An.bind k).imp fun d k v E' H' g s => by
    cases s with
    | lst hs hr =>
      rename_i a vs ds
      have hs : SqL X.K E' a vs := SqL.of hs
      refine ⟨a, rfl, ⟨vs, g.eh.sqL hs⟩, k _ E' H' g ⟨fun i E1 H1 s1 s2 hi => ?_, fun E1 H1 s1 s2 => ⟨vs, s2.sqL (s1.sqL hs), by rw [hr.length]; exact Nat.le_refl _⟩, fun i E1 H1 x H2 d s1 s2 y hd => ?_⟩⟩
      · obtain ⟨u, hu, _⟩ := hr.get (List.getElem?_eq_getElem hi)
        exact ⟨vs, u, s2.sqL (s1.sqL hs), hu⟩
      · obtain ⟨rfl, y⟩ := y
        have z := y vs (s2.sub.sqL (s1.sqL hs))
        obtain ⟨u, hu, hd⟩ := hr.get hd
        rw [z] at hu; cases hu
        exact ⟨E1, Gr.refl s2.sub, hd.mono s1⟩
    | _ => exact k.elim⟩
theorem i_tup (h : PE X e (tD X.K cl W f)) : PI X tg e (tI X.K cl W (cSeqT f)) :=
  PI.imp (pi_tup h) fun σ H R ⟨E0, H0, E, ρ, r, k⟩ => ⟨E0, H0, E, ρ, r, (An.bind k).imp fun d k v E' H' g s => by
    cases s with
    | tup hs hr =>
      rename_i a vs ds
      refine ⟨a, rfl, ⟨vs, g.eh.sqT hs⟩, k _ E' H' g ⟨fun i E1 H1 s1 s2 hi => ?_, fun E1 H1 s1 s2 => ⟨vs, s2.sqT (s1.sqT hs), by rw [hr.length]; exact Nat.le_refl _⟩, fun i E1 H1 x H2 d s1 s2 y hd => ?_⟩⟩
      · obtain ⟨u, hu, _⟩ := hr.get (List.getElem?_eq_getElem hi)
        exact ⟨vs, u, s2.sqT (s1.sqT hs), hu⟩
      · obtain ⟨rfl, y⟩ := y
        have z := y vs (s2.sub.sqT (s1.sqT hs))
        obtain ⟨u, hu, hd⟩ := hr.get hd
        rw [z] at hu; cases hu
        exact ⟨E1, Gr.refl s2.sub, hd.mono s1⟩
    | _ => exact k.elim⟩
def rngD (lo : Int) (n : Nat) : List Dt := (List.range n).map fun i => .int (lo + (i : Nat))
theorem walk_range {E : Hp} {lo : Int} {n : Nat} : Walk K cl (Itr lo n) E (rngD lo n) where
  go := fun i _ _ _ _ hi => by unfold rngD at hi; show i < n; simpa using hi
  stop := fun _ _ _ _ => by unfold rngD; simp [Itr]
  yld := fun i E1 H1 x H2 d s1 s2 y hd => by
    obtain ⟨rfl, rfl⟩ := y
    unfold rngD at hd
    rw [List.getElem?_map] at hd
    have hi : i < n := by
      cases q : (List.range n)[i]? with
      | none => rw [q] at hd; cases hd
      | some j => have := (List.getElem?_eq_some_iff.mp q).1; simpa using this
    rw [List.getElem?_range hi] at hd
    cases hd
    exact ⟨E1, Gr.refl s2.sub, .int _⟩
def inR (i : Int) : Bool := decide (-(2 ^ 62) ≤ i) && decide (i < 2 ^ 62)
theorem inR_iff {i : Int} (h : inR i = true) : -(2 ^ 62) ≤ i ∧ i < 2 ^ 62 := by
  unfold inR at h
  rw [Bool.and_eq_true] at h
  exact ⟨of_decide_eq_true h.1, of_decide_eq_true h.2⟩
@[simp] def cRng1 (fa : Av) : Av := fun ρ => (fa ρ).bind fun xs => match xs with
  | [.int j] => if inR j = true then .ok (rngD 0 j.toNat) else .st
  | _ => .st
@[simp] def cRng2 (fa : Av) : Av := fun ρ => (fa ρ).bind fun xs => match xs with
  | [.int i, .int j] => if inR i = true ∧ inR j = true then .ok (rngD i (j - i).toNat) else .st
  | _ => .st
theorem i_range1 (hg : Gl X "range") (hm : X.mg "range" = none) (ha : PA X [a] (tA K cl W (fun E _ v d => Dn K cl E v d) fa)) (hs : starEach [a] X.env = [(false, eval a X.env)] := by rfl) : PI X tg (.Call (.Name "range" p) [a] [] pos) (tI K cl W (cRng1 fa)) :=
  PI.imp (pi_range1 hg hm ha hs) fun σ H R ⟨E0, H0, E, ρ, r, k⟩ => ⟨E0, H0, E, ρ, r, (An.bind k).imp fun d k v E' H' g s => by
    split at k
    · rename_i j
      obtain ⟨hj, k⟩ := An.ite k
      have := DnA.of s
      cases this with
      | cons h1 h2 =>
        cases h2; cases h1
        exact ⟨j, rfl, (inR_iff hj).1, (inR_iff hj).2, k _ E' H' g walk_range⟩
    · exact k.elim⟩
theorem i_range2 (hg : Gl X "range") (hm : X.mg "range" = none) (ha : PA X [a, b] (tA K cl W (fun E _ v d => Dn K cl E v d) fa)) (hs : starEach [a, b] X.env = [(false, eval a X.env), (false, eval b X.env)] := by rfl) (hs2 : starEach [b] X.env = [(false, eval b X.env)] := by rfl) :
    PI X tg (.Call (.Name "range" p) [a, b] [] pos) (tI K cl W (cRng2 fa)) :=
  PI.imp (pi_range2 hg hm ha hs hs2) fun σ H R ⟨E0, H0, E, ρ, r, k⟩ => ⟨E0, H0, E, ρ, r, (An.bind k).imp fun d k v E' H' g s => by
    split at k
    · rename_i i j
      obtain ⟨⟨hi, hj⟩, k⟩ := An.ite k
      have := DnA.of s
      cases this with
      | cons h1 h2 =>
        cases h2 with
        | cons h2 h3 =>
          cases h3; cases h1; cases h2
          exact ⟨i, j, rfl, ⟨(inR_iff hi).1, (inR_iff hi).2, (inR_iff hj).1, (inR_iff hj).2⟩, k _ E' H' g walk_range⟩
    · exact k.elim⟩

/-! ### for -/
def goFor (tg : Gv) (fg : List Nat) (body : Sv) : List Dt → List Sl → Ro
  | [], ρ => .nx ρ
  | d :: ds, ρ => match tg d ρ with
    | none => .st
    | some ρ1 => match body ρ1 with
      | .nx ρ2 => goFor tg fg body ds (fgt fg ρ2)
      | .ct ρ2 => goFor tg fg body ds (fgt fg ρ2)
      | .bk ρ2 => .nx ρ2
      | .rt d => .rt d
      | .ex n ρ2 => .ex n ρ2
      | .st => .st
theorem goFor_cons {tg : Gv} {fg : List Nat} {body : Sv} {d : Dt} {ds : List Dt} {ρ : List Sl} : goFor tg fg body (d :: ds) ρ = match tg d ρ with
    | none => .st
    | some ρ1 => match body ρ1 with
      | .nx ρ2 => goFor tg fg body ds (fgt fg ρ2)
      | .ct ρ2 => goFor tg fg body ds (fgt fg ρ2)
      | .bk ρ2 => .nx ρ2
      | .rt d => .rt d
      | .ex n ρ2 => .ex n ρ2
      | .st => .st := rfl
theorem goFor_nil {tg : Gv} {fg : List Nat} {body : Sv} {ρ : List Sl} : goFor tg fg body [] ρ = .nx ρ := rfl
@[simp] def sFor (src : Av) (tg : Gv) (fg : List Nat) (body : Sv) : Sv := fun ρ => rob (src ρ) ρ fun ds => goFor tg fg body ds ρ
theorem s_for {src : Av} {vs : List Nat} {gt : Gv} (fg : List Nat) (hp : PassesOwn (model X.prog X.w) X.A X.env X.xe) (hc : X.calm = true) (hi : PI X tg iter (tI K cl W src)) (hg : PG X tg (tTg K cl vs gt)) (hb : PSs X body (tS K cl W g))
    (hs : ∀ x, foldedSetIterable iter X.env x = pure x := by intro _; rfl) : PS X (.For tg iter body [] pos) (tS K cl W (sFor src gt fg g)) :=
  PS.imp (ps_for hp hc hi hg hb hs) fun D σ H ⟨E0, H0, E, ρ, r, k⟩ => ⟨E0, H0, E, ρ, r, (rob_an r k).imp fun ds k J E' H' gr wk => by
    refine ⟨fun i m σ H => m = ds.length - i ∧ i ≤ ds.length ∧ ∃ E1 ρ1, Rl K cl E0 H0 E1 H σ ρ1 ∧ Sub E' E1 ∧ goFor gt fg g (ds.drop i) ρ1 = goFor gt fg g ds ρ, ⟨_, rfl, Nat.zero_le _, E', ρ, r.grow gr, Sub.refl _, rfl⟩, ?_⟩
    rintro i m σ1 H1 ⟨rfl, hi, E1, ρ1, r1, s1, eq⟩
    have k1 : Ros K cl W D E0 H0 E1 (goFor gt fg g ds ρ) := Ros.up k (gr.ee.trans s1)
    by_cases hlt : i < ds.length
    · refine .inr ⟨wk.go i E1 H1 s1 r1.gr.eh hlt, fun σ' H' => ∃ E2 ρ2, Rl K cl E0 H0 E2 H' σ' ρ2 ∧ Sub E' E2 ∧ goFor gt fg g (ds.drop (i + 1)) ρ2 = goFor gt fg g ds ρ, fun σ' H' n => ⟨_, by omega, rfl, hlt, n⟩, fun x H2 y => ?_⟩
      obtain ⟨E2, g2, hx⟩ := wk.yld i E1 H1 x H2 _ s1 r1.sb y (List.getElem?_eq_getElem hlt)
      have r2 := r1.grow g2
      rw [List.drop_eq_getElem_cons hlt, goFor_cons] at eq
      rw [← eq] at k1
      revert k1 eq
      cases z : gt ds[i] ρ1 with
      | none => intro k1 _; exact k1.elim
      | some ρ2 =>
        intro k1 eq
        refine ⟨E0, H0, E2, ρ1, _, ρ2, r2, hx, z, fun σ2 r3 _ => ⟨E0, H0, E2, ρ2, r3, ?_⟩⟩
        have k1 := Ros.up k1 g2.ee
        dsimp only at k1 eq
        revert k1 eq
        cases z2 : g ρ2 with
        | st => intro _ k1; exact k1
        | nx ρ3 => intro eq k1; exact fun σ' E3 H3 r4 s4 => ⟨E3, _, r4.fgt, (s1.trans g2.ee).trans s4, eq⟩
        | ct ρ3 => intro eq k1; exact fun σ' E3 H3 r4 s4 => ⟨E3, _, r4.fgt, (s1.trans g2.ee).trans s4, eq⟩
        | bk ρ3 => intro eq k1; exact k1
        | rt d => intro eq k1; exact k1
        | ex n ρ3 => intro eq k1; exact k1
    · have e : i = ds.length := by omega
      subst e
      refine .inl ⟨wk.stop E1 H1 s1 r1.gr.eh, ?_⟩
      rw [List.drop_length] at eq
      rw [goFor_nil] at eq
      rw [← eq] at k1
      exact k1 σ1 E1 H1 r1 (Sub.refl _)⟩

/-! ### while -/
def goWh (t : Tv) (fg : List Nat) (body : Sv) : Nat → List Sl → Ro
  | 0, _ => .st
  | m + 1, ρ => rob (t ρ) ρ fun b => cond b (match body ρ with
      | .nx ρ2 => goWh t fg body m (fgt fg ρ2)
      | .ct ρ2 => goWh t fg body m (fgt fg ρ2)
      | .bk ρ2 => .nx ρ2
      | .rt d => .rt d
      | .ex n ρ2 => .ex n ρ2
      | .st => .st) (.nx ρ)
@[simp] def sWh (m : Nat) (t : Tv) (fg : List Nat) (body : Sv) : Sv := fun ρ => goWh t fg body m ρ
theorem s_while (m : Nat) (fg : List Nat) (hp : PassesOwn (model X.prog X.w) X.A X.env X.xe) (hc : PT X c (tT K cl W t)) (hb : PSs X body (tS K cl W g)) : PS X (.While c body [] pos) (tS K cl W (sWh m t fg g)) :=
  PS.imp (ps_while hp hc hb) fun D σ H ⟨E0, H0, E, ρ, r, k⟩ => by
    refine ⟨fun m σ H => ∃ E1 ρ1, Rl K cl E0 H0 E1 H σ ρ1 ∧ Ros K cl W D E0 H0 E1 (goWh t fg g m ρ1), ⟨m, E, ρ, r, k⟩, ?_⟩
    rintro m σ1 H1 ⟨E1, ρ1, r1, k1⟩
    cases m with
    | zero => exact k1.elim
    | succ m =>
      unfold goWh at k1
      refine ⟨E0, H0, E1, ρ1, r1, (rob_an r1 k1).imp fun b k2 E2 H2 g2 => ?_⟩
      have r2 := r1.grow g2
      have k2 := Ros.up k2 g2.ee
      cases b with
      | false => exact iteF (k2 σ1 E2 H2 r2 (Sub.refl _))
      | true =>
        refine iteT ⟨fun σ' H' => ∃ E3 ρ3, Rl K cl E0 H0 E3 H' σ' ρ3 ∧ Ros K cl W D E0 H0 E3 (goWh t fg g m ρ3), fun σ' H' n => ⟨m, Nat.lt_succ_self _, n⟩, E0, H0, E2, ρ1, r2, ?_⟩
        have k2 : Ros K cl W D E0 H0 E2 (match g ρ1 with
          | .nx ρ2 => goWh t fg g m (fgt fg ρ2)
          | .ct ρ2 => goWh t fg g m (fgt fg ρ2)
          | .bk ρ2 => .nx ρ2
          | .rt d => .rt d
          | .ex n ρ2 => .ex n ρ2
          | .st => .st) := k2
        revert k2
        cases z : g ρ1 with
        | st => exact fun k => k
        | nx ρ3 => exact fun k σ' E3 H3 r4 s4 => ⟨E3, _, r4.fgt, Ros.up k s4⟩
        | ct ρ3 => exact fun k σ' E3 H3 r4 s4 => ⟨E3, _, r4.fgt, Ros.up k s4⟩
        | bk ρ3 => exact fun k => k
        | rt d => exact fun k => k
        | ex n ρ3 => exact fun k => k
end
end Dl
namespace Dl
open PySem L2 PyProof.Rows
section
variable {K : PySem.W.Frag} {cl : Str → Addr} {X : Cx} {W : L2.WX} {R : Rel} {S : Rl4} {a b c e x tg iter elt : Expr} {es rest ifs : List Expr} {f : Ev} {t : Tv} {g h : Sv} {fa : Av} {pos p p2 : Pos} {st : Stmt} {sts body : List Stmt} {D : Ends} {E0 H0 E H : Hp} {n : Str}

/-! ### list comprehensions -/
@[simp] def tvYes : Tv := fun _ => .ok true
variable (K cl) in
def tTs (t : Tv) : TT := tT K cl (fun _ _ _ _ => False) t
theorem ts_nil : PTs X [] (tTs K cl tvYes) := ⟨fun pins s σ H Q I ⟨E0, H0, E, ρ, r, k⟩ => pts_nil.run pins s σ H Q I (k E H (Gr.refl r.sb.sub))⟩
theorem ts_one (h : PT X c (tT K cl (fun _ _ _ _ => False) t)) : PTs X [c] (tTs K cl t) := pts_one h
def goLc (tg : Gv) (t : Tv) (f : Ev) : List Dt → List Sl → Rs (List Dt)
  | [], _ => .ok []
  | d :: ds, ρ => match tg d ρ with
    | none => .st
    | some ρ1 => match t ρ1 with
      | .ok true => (match f ρ1 with
        | .ok y => (goLc tg t f ds ρ).bind fun r => .ok (y :: r)
        | _ => .st)
      | .ok false => goLc tg t f ds ρ
      | _ => .st
theorem goLc_cons {tg : Gv} {t : Tv} {f : Ev} {d : Dt} {ds : List Dt} {ρ : List Sl} : goLc tg t f (d :: ds) ρ = match tg d ρ with
    | none => .st
    | some ρ1 => match t ρ1 with
      | .ok true => (match f ρ1 with
        | .ok y => (goLc tg t f ds ρ).bind fun r => .ok (y :: r)
        | _ => .st)
      | .ok false => goLc tg t f ds ρ
      | _ => .st := rfl
@[simp] def cLc (own : List Nat) (src : Av) (tg : Gv) (t : Tv) (f : Ev) : Ev := fun ρ => (src ρ).bind fun ds => if ds.length ≤ lim then (match goLc tg t f ds (fgt own ρ) with
  | .ok r => .ok (.lst r)
  | _ => .st) else .st
theorem lc_ {src : Av} {vs own : List Nat} {gt : Gv} (hv : ∀ i ∈ vs, i ∈ own) (σ : L2.St) (H : Hp) (Q : VK) (q : tN K cl W (cLc own src gt t f) σ H Q) :
    tLc (tI K cl W src) (tTg K cl vs gt) (tTs K cl t) (tD K cl (fun _ _ _ _ => False) f) own σ H Q := by
  obtain ⟨E0, H0, E, ρ, r, k⟩ := q
  refine ⟨E0, H0, E, ρ, r, (An.bind k).imp fun ds k J E1 H1 g1 wk L nL => ?_⟩
  obtain ⟨hl, k⟩ := An.ite k
  cases full : goLc gt t f ds (fgt own ρ) with
  | st => rw [full] at k; exact k.elim
  | ex n => rw [full] at k; exact k.elim
  | ok out =>
  rw [full] at k
  have r1 := r.grow g1
  have nE1 : E1 L = none := r1.gr.eh.fresh nL
  have keep : ∀ {E2 H2 : Hp} {o : HO}, Gr E1 H1 E2 H2 → E2 L = none → ¬ Imm o → Gr E1 H1 E2 (upd H2 L o) := fun {E2 H2 o} g2 n2 no => by
    refine ⟨g2.ee, fun x u q => ?_, fun x u q => ?_, g2.nw, fun x u q1 q2 q3 => ?_⟩
    · have : x ≠ L := fun z => by rw [z, nL] at q; cases q
      rw [upd_ne this]; exact g2.hh x u q
    · have : x ≠ L := fun z => by rw [z, n2] at q; cases q
      rw [upd_ne this]; exact g2.eh x u q
    · by_cases hx : x = L
      · subst hx; rw [upd_same] at q2; cases q2; exact absurd q3 no
      · rw [upd_ne hx] at q2; exact g2.im x u q1 q2 q3
  refine ⟨fun i m H2 => m = ds.length - i ∧ i ≤ ds.length ∧ ∃ E2 acc accD, Gr E1 H1 E2 H2 ∧ E2 L = none ∧ H2 L = some (.lst acc) ∧ DnA K cl E2 acc accD ∧ accD.length ≤ i ∧
    (goLc gt t f (ds.drop i) (fgt own ρ)).bind (fun r => Rs.ok (accD ++ r)) = .ok out, ⟨_, rfl, Nat.zero_le _, E1, [], [], keep (Gr.refl r1.gr.eh) nE1 (fun z => z), nE1, upd_same, .nil, Nat.le_refl _, ?_⟩, ?_⟩
  · rw [List.drop_zero, full]; rfl
  rintro i m H2 ⟨rfl, hi, E2, acc, accD, g2, n2, hL, hA, hle, eq⟩
  have r2 := r1.grow g2
  by_cases hlt : i < ds.length
  · refine .inr ⟨wk.go i E2 H2 g2.ee r2.gr.eh hlt, fun H' => ∃ E2 acc accD, Gr E1 H1 E2 H' ∧ E2 L = none ∧ H' L = some (.lst acc) ∧ DnA K cl E2 acc accD ∧ accD.length ≤ i + 1 ∧
      (goLc gt t f (ds.drop (i + 1)) (fgt own ρ)).bind (fun r => Rs.ok (accD ++ r)) = .ok out, fun H' n => ⟨_, by omega, rfl, hlt, n⟩, fun y H3 hy => ?_⟩
    obtain ⟨E3, g3, hx⟩ := wk.yld i E2 H2 y H3 _ g2.ee r2.sb hy (List.getElem?_eq_getElem hlt)
    have r3 := (r2.grow g3).wipe own own (fun _ h => h)
    rw [List.drop_eq_getElem_cons hlt, goLc_cons] at eq
    cases z : gt ds[i] (fgt own ρ) with
    | none => rw [z] at eq; cases eq
    | some ρ1 =>
    rw [z] at eq
    dsimp only at eq
    refine ⟨E0, H0, E3, _, _, ρ1, r3, hx, z, fun σ' r4 hw => ⟨?_, ?_⟩⟩
    · have hh : ∀ ws : List Nat, wipe (wipe σ ws) ws = wipe σ ws := by
        have gen : ∀ (ws us : List Nat), (∀ i ∈ ws, i ∈ us) → ∀ τ : L2.St, wipe (wipe τ ws) us = wipe τ us := by
          intro ws
          induction ws with
          | nil => intro us _ τ; rfl
          | cons j ws ih =>
            intro us hu τ
            show wipe ((wipe τ ws).set j none) us = _
            rw [wipe_set (hu j List.mem_cons_self)]
            exact ih us (fun i hi => hu i (List.mem_cons_of_mem _ hi)) τ
        exact fun ws => gen ws ws (fun _ h => h) σ
      rw [hw own hv, hh]
    refine ⟨E0, H0, E3, ρ1, r4, ?_⟩
    cases zt : t ρ1 with
    | st => rw [zt] at eq; cases eq
    | ex n => rw [zt] at eq; cases eq
    | ok bo =>
    rw [zt] at eq
    intro E4 H4 g4
    have g24 := (g2.trans g3).trans g4
    have n4 : E4 L = none := (g3.trans g4).nw L (by rw [hL]; simp) n2
    cases bo with
    | false =>
      refine iteF ⟨E4, acc, accD, g24, n4, (g3.trans g4).hh _ _ hL, hA.mono (g3.trans g4).ee, Nat.le_succ_of_le hle, eq⟩
    | true =>
      refine iteT ⟨E0, H0, E4, ρ1, r4.grow g4, ?_⟩
      dsimp only at eq
      cases ze : f ρ1 with
      | st => rw [ze] at eq; cases eq
      | ex n => rw [ze] at eq; cases eq
      | ok y =>
      rw [ze] at eq
      intro v E5 H5 g5 hd
      have g25 := (g3.trans g4).trans g5
      have n5 : E5 L = none := g25.nw L (by rw [hL]; simp) n2
      have h5 := g25.hh _ _ hL
      refine ⟨acc, h5, by rw [hA.length]; exact lim_lt (by omega), E5, acc ++ [v], accD ++ [y], keep (g2.trans g25) n5 (fun z => z), n5, upd_same, (hA.mono g25.ee).append (.one hd), by rw [List.length_append]; simpa using hle, ?_⟩
      revert eq
      cases goLc gt t f (ds.drop (i + 1)) (fgt own ρ) with
      | st => intro eq; cases eq
      | ex n => intro eq; cases eq
      | ok r =>
        intro eq
        have eq : Rs.ok (accD ++ y :: r) = Rs.ok out := eq
        show Rs.ok (accD ++ [y] ++ r) = Rs.ok out
        rw [← eq]; simp
  · have e : i = ds.length := by omega
    subst e
    rw [List.drop_length] at eq
    have eq : Rs.ok (accD ++ []) = Rs.ok out := eq
    rw [List.append_nil] at eq
    cases eq
    exact .inl ⟨wk.stop E2 H2 g2.ee r2.gr.eh, k _ E2 H2 (g1.trans g2) ⟨L, rfl, g1.fresh nL, n2, acc, hL, hA⟩⟩
theorem n_lc {scope : Scope} {own : List (Str × Nat)} {src : Av} {vs : List Nat} {gt : Gv} (hv : ∀ i ∈ vs, i ∈ own.map (·.2)) (hc : X.calm = true) (hN : X.N.Nodup) (hi : PI X tg iter (tI K cl W src)) (ok : BlkOk X.N X.env.scope scope own)
    (hg : ∀ (s : Shared) (H : Hp) (C : Addr) (cs : List (Str × Addr)) (fp : List Addr), PG (X.blk s H scope (compEnvC scope cs C X.env) fp) tg (tTg K cl vs gt))
    (ht : ∀ (s : Shared) (H : Hp) (C : Addr) (cs : List (Str × Addr)) (fp : List Addr), PTs (X.blk s H scope (compEnvC scope cs C X.env) fp) ifs (tTs K cl t))
    (he : ∀ (s : Shared) (H : Hp) (C : Addr) (cs : List (Str × Addr)) (fp : List Addr), PE (X.blk s H scope (compEnvC scope cs C X.env) fp) elt (tD K cl (fun _ _ _ _ => False) f)) (hs : ∀ x, foldedSetIterable iter X.env x = pure x := by intro _; rfl) :
    PE X (.ListComp elt [⟨tg, iter, ifs, 0⟩] scope pos) (tN K cl W (cLc (own.map (·.2)) src gt t f)) := PE.imp (pe_lc hc hN hi ok hg ht he hs) (lc_ hv)
/-- y = [..] on one line -/
theorem s_setLc {i : Nat} {py spos : Pos} {scope : Scope} {own : List (Str × Nat)} {src : Av} {vs : List Nat} {gt : Gv} (hv : ∀ i ∈ vs, i ∈ own.map (·.2)) (hc : X.calm = true) (hN : X.N.Nodup) (hy : X.N[i]? = some n) (hyl : X.env.scope.names.lookup n = some .local)
    (hsw : swapsWith (.ListComp elt [⟨tg, iter, ifs, 0⟩] scope pos) (some (.Name n py)) spos.line X.env = pure true) (hi : PI X tg iter (tI K cl W src)) (ok : BlkOk X.N X.env.scope scope own)
    (hg : ∀ (s : Shared) (H : Hp) (C : Addr) (cs : List (Str × Addr)) (fp : List Addr), PG (X.blk s H scope (compEnvC scope cs C X.env) fp) tg (tTg K cl vs gt))
    (ht : ∀ (s : Shared) (H : Hp) (C : Addr) (cs : List (Str × Addr)) (fp : List Addr), PTs (X.blk s H scope (compEnvC scope cs C X.env) fp) ifs (tTs K cl t))
    (he : ∀ (s : Shared) (H : Hp) (C : Addr) (cs : List (Str × Addr)) (fp : List Addr), PE (X.blk s H scope (compEnvC scope cs C X.env) fp) elt (tD K cl (fun _ _ _ _ => False) f)) (hs : ∀ x, foldedSetIterable iter X.env x = pure x := by intro _; rfl) :
    PS X (.Assign [.Name n py] (.ListComp elt [⟨tg, iter, ifs, 0⟩] scope pos) spos) (tS K cl W (sSetN i (cLc (own.map (·.2)) src gt t f))) :=
  PS.imp (ps_setLc hc hN hy hyl hsw hi ok hg ht he hs) fun D σ H ⟨E0, H0, E, ρ, r, k⟩ =>
    lc_ (W := W) hv σ H _ ⟨E0, H0, E, ρ, r, (rob_an r k).imp fun d k v E' H' g s => k _ E' H' (r.setO g s i) g.ee⟩

/-! ### append -/
@[simp] def sApp (i : Nat) (f : Ev) : Sv := fun ρ => match ρ[i]? with
  | some (.ow (.lst ds)) => rob (f ρ) ρ fun d => if ds.length ≤ lim then .nx (ρ.set i (.ow (.lst (ds ++ [d])))) else .st
  | _ => .st
theorem s_app {i : Nat} {apos cpos : Pos} (ho : PE X x (tVar i)) (ha : PE X e (tD X.K cl W f)) (hs : swapsWith (.Call (.Attribute x "append" apos) [e] [] cpos) none pos.line X.env = pure false := by rfl)
    (hbase : attributeBase x "append" X.env (eval x X.env) = eval x X.env := by rfl)
    (hfew : ((backTo cpos (starEach [e] X.env)).all (fun x => !x.1) && (backToKw cpos (keywordEach [] X.env)).all (fun x => x.1.isSome)
      && decide (([e] : List Expr).length + ([] : List Keyword).length + (if ([] : List Keyword).isEmpty then 0 else 1) < 30)) = true := by rfl)
    (hline : (apos.endLine == cpos.line) = true := by rfl) (hst : starEach [e] X.env = (false, eval e X.env) :: starEach [] X.env := by rfl) (hplain : (backTo cpos (starEach [] X.env)).any (·.1) = false := by rfl) :
    PS X (.Expr (.Call (.Attribute x "append" apos) [e] [] cpos) pos) (tS X.K cl W (sApp i f)) :=
  PS.imp (ps_expr (pe_bm PySem.F.plainAttrs_list PySem.F.slot_list_append PySem.F.type_list_append mt_append ho (pa_cons ha pa_nil hst) hbase hfew hline hst hplain) hs) fun D σ H ⟨E0, H0, E, ρ, r, k⟩ => by
    unfold sApp at k
    split at k
    · rename_i ds hi
      obtain ⟨a, h1, h2, h3, vs, h4, h5⟩ := r.ow i _ hi
      refine ⟨_, h1, .inl ⟨rfl, _, .inl (.inl h4)⟩, E0, H0, E, ρ, r, (rob_an r k).imp fun d k v E' H' g s => ?_⟩
      split at k
      · rename_i hl
        have r' := r.grow g
        refine ⟨a, vs, v, rfl, rfl, g.hh _ _ h4, by rw [h5.length]; exact lim_lt hl, ?_⟩
        exact k σ E' _ (r'.write hi h1 (o := .lst (vs ++ [v])) (fun z => z) ⟨vs ++ [v], upd_same, (h5.mono g.ee).append (.one s)⟩) g.ee
      · exact k.elim
    · exact k.elim

/-! ### raising -/
/-- the exception class n of the text, over ValueError, without __init__ -/
structure XCls (K : PySem.W.Frag) (mg : Str → Option Value) (n : Str) (C : Addr) : Prop where
  g : mg n = some (.ref C)
  x : PySem.W.excIn K C [.type "ValueError", .type "Exception", .type "BaseException", .type "object"] "ValueError.__new__" = true
  k : PySem.W.keepIn K (.ref C) = true
  b : PySem.W.subIn K (.ref C) (.type "BaseException") = some true
  t : PySem.W.typeIn K (.ref C) = some (.type "type")
@[simp] def sRaise (n : Str) : Sv := fun ρ => .ex n ρ
theorem s_raise {m : Str} {j : Nat} {pos' : Pos} (hc : X.calm = true) (tk : Takes X W) (xc : XCls X.K X.mg n (cl n)) (hg : Gl X n) (hdb : (n == ("__debug__" : Str)) = false := by decide) :
    PS X (.Raise (some (.Call (.Name n p) [.Constant (.str m) j p2] [] pos')) none pos) (tS X.K cl W (sRaise n)) :=
  PS.imp (ps_raise hc tk (pmk_own PySem.F.excBase_ValueError xc.x xc.g xc.k (raises_own xc.b xc.t) hg hdb)) fun D σ H ⟨E0, H0, E, ρ, r, k⟩ => k σ E H r (Sub.refl _)
end

/-! ### a def -/
@[simp] def runF (np nn : Nat) (g : Sv) (ds : List Dt) : Rs Dt := if ds.length = np then (match g (ds.map Sl.va ++ List.replicate (nn - ds.length) Sl.no) with
  | .rt d => .ok d
  | .nx _ => .ok .non
  | .ex n _ => .ex n
  | _ => .st) else .st
section
variable {P : Program} {w : World} {K : PySem.W.Frag} {mg : Str → Option Value} {base : Heap} {cl : Str → Addr}
theorem start_rl {E H : Hp} {N : List Str} {vs : List V} {ds : List Dt} (sb : Sb E H) (h : DnA K cl E vs ds) : Rl K cl E H E H (L2.start N vs) (ds.map Sl.va ++ List.replicate (N.length - ds.length) Sl.no) where
  sb0 := sb
  gr := Gr.refl sb.sub
  len := by unfold L2.start; simp [h.length]
  va := fun i d q => by
    by_cases hi : i < ds.length
    · rw [List.getElem?_append_left (by simpa using hi), List.getElem?_map] at q
      cases z : ds[i]? with
      | none => rw [z] at q; cases q
      | some d' =>
        rw [z] at q; cases q
        obtain ⟨v, h1, h2⟩ := h.get z
        refine ⟨v, ?_, h2⟩
        unfold L2.start
        have : i < vs.length := by rw [h.length]; exact hi
        rw [List.getElem?_append_left (by simpa using this), List.getElem?_map, h1]; rfl
    · rw [List.getElem?_append_right (by simpa using hi)] at q
      rw [List.getElem?_replicate] at q
      split at q <;> cases q
  ow := fun i d q => by
    by_cases hi : i < ds.length
    · rw [List.getElem?_append_left (by simpa using hi), List.getElem?_map] at q
      cases z : ds[i]? with
      | none => rw [z] at q; cases q
      | some d' => rw [z] at q; cases q
    · rw [List.getElem?_append_right (by simpa using hi)] at q
      rw [List.getElem?_replicate] at q
      split at q <;> cases q
  ne := fun i j d e a _ q _ _ => by
    by_cases hi : i < ds.length
    · rw [List.getElem?_append_left (by simpa using hi), List.getElem?_map] at q
      cases z : ds[i]? with
      | none => rw [z] at q; cases q
      | some d' => rw [z] at q; cases q
    · rw [List.getElem?_append_right (by simpa using hi)] at q
      rw [List.getElem?_replicate] at q
      split at q <;> cases q
theorem Fn.mk' {x q : Str} {st : Stmt} {fA : Addr} {fd : FuncData} {N ps : List Str} {k : Nat} {g : Sv} (F : Fun K x q st fA fd) (S : FnScope N ps (defScope st)) (hm : mg x = some (.ref fA)) (hb : Binds K fd ps [])
    (hbody : ∀ (cdv : Value) (A : Around) (outer : List Env) (s : Shared) (H : Hp) (E : XK), Room k (A.deeper (envOfC q (defScope st) s.heap.objs.size fA cdv)) →
      PSs (cxOf (L2.CX P w) P w K mg base N q (defScope st) fA cdv A outer s H E) (defBody st) (tS K cl (fun c d _ H => E c d H) g)) :
    Fn P w K mg base cl x (k + 1) ps (runF ps.length N.length g) := by
  refine ⟨fA, fd, F.okX S (fun vs H Q E h => ?_) (fun cdv A outer s H vs Q E hr h => ?_), hm, F.kp, hb, by obtain ⟨oc, od, kV, doc, pm, an, cdv, ct, osl, _, lk, _⟩ := F.ex; exact ⟨oc, od, osl, lk⟩⟩
  · obtain ⟨E1, ds, sb, hd, h⟩ := h
    rw [hd.length]
    unfold runF at h
    by_cases hl : ds.length = ps.length
    · exact hl
    · rw [if_neg hl] at h; exact h.elim
  · obtain ⟨E1, ds, sb, hd, h⟩ := h
    refine ⟨_, hbody cdv A outer s H E hr, E1, H, E1, _, start_rl (N := N) sb hd, ?_⟩
    unfold runF at h
    by_cases hl : ds.length = ps.length
    · rw [if_pos hl] at h
      revert h
      cases g (ds.map Sl.va ++ List.replicate (N.length - ds.length) Sl.no) with
      | st => exact fun h => h
      | nx ρ => exact fun h σ' E' H' r _ => h _ E' H' r.gr .non
      | bk ρ => exact fun h => h.elim
      | ct ρ => exact fun h => h.elim
      | rt d => exact fun h v E' H' g' s => h v E' H' g' s
      | ex n ρ => exact fun h σ' E' H' r _ => h E' H' r.gr
    · rw [if_neg hl] at h; exact h.elim
end
end Dl
namespace Dl
open PySem L2 PyProof.Rows
theorem hu_65 {A : Around} {k : Nat} (hr : Room k A) : A.units + 65 < cLine := by have := hr.un; omega
/-- the def x of the text: where it stands, how its arguments bind -/
def Dfn (K : PySem.W.Frag) (mg : Str → Option Value) (x : Str) (st : Stmt) (ps : List Str) : Prop := ∃ (f : Addr) (fd : FuncData), Fun K x x st f fd ∧ mg x = some (.ref f) ∧ ∀ (s : Shared) (us : List Value), us.length = ps.length → BindsTo s fd ⟨us, []⟩ (ps.zip us)
section
variable {P : Program} {w : World} {K : PySem.W.Frag} {mg : Str → Option Value} {base : Heap} {cl : Str → Addr}
theorem Dfn.mk {x : Str} {st : Stmt} {N ps : List Str} {k : Nat} {g : Sv} (F : Dfn K mg x st ps) (S : FnScope N ps (defScope st))
    (hbody : ∀ {fA : Addr} {cdv : Value} {A : Around} {outer : List Env} {s : Shared} {H : Hp} {E : XK}, Room k (cxOf (L2.CX P w) P w K mg base N x (defScope st) fA cdv A outer s H E).A →
      Takes (cxOf (L2.CX P w) P w K mg base N x (defScope st) fA cdv A outer s H E) (fun c d _ H => E c d H) →
      PassesOwn (model P w) (cxOf (L2.CX P w) P w K mg base N x (defScope st) fA cdv A outer s H E).A (cxOf (L2.CX P w) P w K mg base N x (defScope st) fA cdv A outer s H E).env (cxOf (L2.CX P w) P w K mg base N x (defScope st) fA cdv A outer s H E).xe →
      (cxOf (L2.CX P w) P w K mg base N x (defScope st) fA cdv A outer s H E).A.units + 64 < cLine → (cxOf (L2.CX P w) P w K mg base N x (defScope st) fA cdv A outer s H E).A.units + 65 < cLine → N.Nodup →
      PSs (cxOf (L2.CX P w) P w K mg base N x (defScope st) fA cdv A outer s H E) (defBody st) (tS K cl (fun c d _ H => E c d H) g)) :
    Fn P w K mg base cl x (k + 1) ps (runF ps.length N.length g) := by
  obtain ⟨f, fd, F, hm, hb⟩ := F
  exact Fn.mk' F S hm (fun s us _ hl => by rw [List.append_nil] at hl ⊢; exact hb s us hl) fun cdv A outer s H E hr => hbody hr (takes_of rfl rfl rfl rfl) (passes_of (K := fun e s'' => L2.CX P w outer H s E e s'') rfl) hr.units (hu_65 hr) S.nd
end
section
variable {K : PySem.W.Frag} {cl : Str → Addr} {X : Cx} {W : L2.WX} {R : Rel} {S : Rl4} {a b c e x tg iter elt : Expr} {es rest ifs : List Expr} {f g : Ev} {t : Tv} {fa : Av} {pos p p2 : Pos} {n : Str}
/-! ### in, not in -/
@[simp] def flD : Dt → Bool
  | .non | .bl _ | .int _ | .str _ => true
  | _ => false
/-- == of flat ones -/
@[simp] def eqF : Dt → Dt → Bool
  | .non, .non => true
  | .bl i, .bl j => i == j
  | .int i, .int j => i == j
  | .str i, .str j => i == j
  | .int i, .bl j => i == b2i j
  | .bl i, .int j => b2i i == j
  | _, _ => false
@[simp] def itemsD : Dt → Option (List Dt)
  | .lst ds => some ds
  | .tup ds => some ds
  | _ => none
def deepIn (x y : Dt) : Option Bool := match toPy x, toPy y with
  | some p, some (.list qs) => if SeqAt.shaped p && SeqAt.shaped (.list qs) then some (qs.any fun z => PyData.eqv z p) else none
  | some p, some (.tuple qs) => if SeqAt.shaped p && SeqAt.shaped (.tuple qs) then some (qs.any fun z => PyData.eqv z p) else none
  | _, _ => none
def inD (x y : Dt) : Option Bool := match itemsD y with
  | some ds => if flD x && ds.all flD then some (ds.any fun z => eqF z x) else deepIn x y
  | none => none
@[simp] def oIn (x y : Dt) : Option Dt := (inD x y).map .bl
@[simp] def oNin (x y : Dt) : Option Dt := (inD x y).map fun b => .bl (!b)
def rInT (K : PySem.W.Frag) (neg : Bool) : R2 := fun x y H Q => ∃ d ds, Dp K H x d ∧ Dp K H y (.tuple ds) ∧ SeqAt.shaped d = true ∧ SeqAt.shaped (.tuple ds) = true ∧ Q (.bl (if neg then !(ds.any fun z => PyData.eqv z d) else ds.any fun z => PyData.eqv z d)) H
theorem room_inT {A : Around} {ds : List PyData} {d : PyData} (h : SeqAt.shaped d = true) (hu : A.units + 65 < cLine) : A.units + 1 + min (PyData.depthAll ds) d.depth < cLine := by
  have h1 := SeqAt.depth_of_shaped h
  have h2 : min (PyData.depthAll ds) d.depth ≤ d.depth := Nat.min_le_right _ _
  omega
theorem op_inT (hu : X.A.units + 65 < cLine) : OpR X (compareOp .In) (rInT X.K false) := by
  intro pins s σ H x y v u Q I rx ry h
  obtain ⟨d, ds, hd, he, sd, se, q⟩ := h
  obtain ⟨as, r1⟩ := Dp.reads I d x v hd rx
  obtain ⟨bs, r2⟩ := Dp.reads I (.tuple ds) y u he ry
  exact SeqAt.in_tuple_reads r2 r1 (SeqAt.canLay_of_shaped se) (SeqAt.canLay_of_shaped sd) (room_inT sd hu) ⟨.bl _, H, I, rfl, q⟩
theorem op_ninT (hu : X.A.units + 65 < cLine) : OpR X (compareOp .NotIn) (rInT X.K true) := by
  intro pins s σ H x y v u Q I rx ry h
  obtain ⟨d, ds, hd, he, sd, se, q⟩ := h
  obtain ⟨as, r1⟩ := Dp.reads I d x v hd rx
  obtain ⟨bs, r2⟩ := Dp.reads I (.tuple ds) y u he ry
  exact SeqAt.notIn_tuple_reads r2 r1 (SeqAt.canLay_of_shaped se) (SeqAt.canLay_of_shaped sd) (room_inT sd hu) ⟨.bl _, H, I, rfl, q⟩
theorem flat_of {E : Hp} {v : V} {d : Dt} (h : Dn K cl E v d) (f : flD d = true) : flatV v = true := by cases h <;> first | rfl | exact Bool.noConfusion f
theorem eqF_of {E : Hp} {v w : V} {d e : Dt} (h : Dn K cl E v d) (k : Dn K cl E w e) (f1 : flD d = true) (f2 : flD e = true) : eqV v w = eqF d e := by
  cases h <;> first | exact Bool.noConfusion f1 | (cases k <;> first | exact Bool.noConfusion f2 | rfl)
theorem flats_of {E : Hp} : ∀ {ds : List Dt} {vs : List V}, DnA K cl E vs ds → ds.all flD = true → vs.all flatV = true
  | [], _, h, _ => by cases h; rfl
  | d :: ds, _, h, f => by
    cases h with
    | cons h r =>
      simp only [List.all_cons, Bool.and_eq_true] at f ⊢
      exact ⟨flat_of h f.1, flats_of r f.2⟩
theorem any_of {E : Hp} {v : V} {x : Dt} (h : Dn K cl E v x) (fx : flD x = true) : ∀ {ds : List Dt} {vs : List V}, DnA K cl E vs ds → ds.all flD = true → inV v vs = ds.any fun z => eqF z x
  | [], _, k, _ => by cases k; rfl
  | d :: ds, _, k, f => by
    cases k with
    | cons k r =>
      simp only [List.all_cons, Bool.and_eq_true] at f
      have := any_of h fx r f.2
      unfold inV at this ⊢
      simp only [List.any_cons, this, eqF_of k h f.1 fx]
theorem seq_of {E H : Hp} {v : V} {d : Dt} {ds : List Dt} (s : Sub E H) (h : Wk K cl E H v d) (e : itemsD d = some ds) : ∃ a vs, v = .ref a ∧ (SqL K H a vs ∨ SqT K H a vs) ∧ DnA K cl E vs ds := by
  cases d with
  | lst es => cases e; obtain ⟨a, vs, h1, h2, h3⟩ := h.items s; exact ⟨a, vs, h1, .inl h2, h3⟩
  | tup es => cases e; obtain ⟨a, vs, h1, h2, h3⟩ := h.itemsT s; exact ⟨a, vs, h1, .inr (s.sqT h2), h3⟩
  | _ => cases e
theorem in_ {E H : Hp} {v w : V} {x y : Dt} {r : Bool} (s : Sub E H) (h1 : Wk K cl E H v x) (h2 : Wk K cl E H w y) (e : inD x y = some r) :
    (∃ p xs, w = .ref p ∧ (SqL K H p xs ∨ SqT K H p xs) ∧ flatV v = true ∧ xs.all flatV = true ∧ r = inV v xs) ∨
    (∃ d ds, Dp K H v d ∧ Dp K H w (.list ds) ∧ SeqAt.shaped d = true ∧ SeqAt.shaped (.list ds) = true ∧ r = ds.any fun z => PyData.eqv z d) ∨
    (∃ d ds, Dp K H v d ∧ Dp K H w (.tuple ds) ∧ SeqAt.shaped d = true ∧ SeqAt.shaped (.tuple ds) = true ∧ r = ds.any fun z => PyData.eqv z d) := by
  unfold inD at e
  cases q : itemsD y with
  | none => rw [q] at e; cases e
  | some ds =>
    rw [q] at e
    dsimp only at e
    by_cases hf : (flD x && ds.all flD) = true
    · rw [if_pos hf] at e
      rw [Bool.and_eq_true] at hf
      obtain ⟨p, vs, rfl, hs, hr⟩ := seq_of s h2 q
      have k1 := h1.full s
      have k2 := hr.mono s
      cases e
      exact .inl ⟨p, vs, rfl, hs, flat_of k1 hf.1, flats_of k2 hf.2, (any_of k1 hf.1 k2 hf.2).symm⟩
    · rw [if_neg hf] at e
      have k1 := h1.full s
      have k2 := h2.full s
      unfold deepIn at e
      split at e
      · rename_i p qs q1 q2
        split at e
        · rename_i hs
          rw [Bool.and_eq_true] at hs
          cases e
          exact .inr (.inl ⟨p, qs, k1.dp q1, k2.dp q2, hs.1, hs.2, rfl⟩)
        · cases e
      · rename_i p qs q1 q2
        split at e
        · rename_i hs
          rw [Bool.and_eq_true] at hs
          cases e
          exact .inr (.inr ⟨p, qs, k1.dp q1, k2.dp q2, hs.1, hs.2, rfl⟩)
        · cases e
      · cases e
theorem room65 {A : Around} {k : Nat} (hr : Room k A) (h1 : 1 ≤ k) : A.units + 65 < cLine := by have := hr.un; omega
theorem in_i (σ : L2.St) (H : Hp) (Q : VK) (h : tD K cl W (c2 oIn f g) σ H Q) : tOp (fun x y H Q => rIn K false x y H Q ∨ rInD K x y H Q ∨ rInT K false x y H Q) (tW K cl W f) (tW K cl W g) σ H Q :=
  bin_ moW coR (fun E H v w x y z sb h1 h2 e Q k => by
    unfold oIn at e
    cases q : inD x y with
    | none => rw [q] at e; cases e
    | some r =>
      rw [q] at e; cases e
      rcases in_ sb.sub h1 h2 q with ⟨p, xs, e1, e2, e3, e4, rfl⟩ | ⟨d, ds, e1, e2, e3, e4, rfl⟩ | ⟨d, ds, e1, e2, e3, e4, rfl⟩
      · exact .inl ⟨p, xs, e1, e2, e3, e4, same_ sb (.bl _) k⟩
      · exact .inr (.inl ⟨d, ds, e1, e2, e3, e4, same_ sb (.bl _) k⟩)
      · exact .inr (.inr ⟨d, ds, e1, e2, e3, e4, same_ sb (.bl _) k⟩)) σ H Q h
theorem nin_i (σ : L2.St) (H : Hp) (Q : VK) (h : tD K cl W (c2 oNin f g) σ H Q) : tOp (fun x y H Q => rIn K true x y H Q ∨ rNotInD K x y H Q ∨ rInT K true x y H Q) (tW K cl W f) (tW K cl W g) σ H Q :=
  bin_ moW coR (fun E H v w x y z sb h1 h2 e Q k => by
    unfold oNin at e
    cases q : inD x y with
    | none => rw [q] at e; cases e
    | some r =>
      rw [q] at e; cases e
      rcases in_ sb.sub h1 h2 q with ⟨p, xs, e1, e2, e3, e4, rfl⟩ | ⟨d, ds, e1, e2, e3, e4, rfl⟩ | ⟨d, ds, e1, e2, e3, e4, rfl⟩
      · exact .inl ⟨p, xs, e1, e2, e3, e4, same_ sb (.bl _) k⟩
      · exact .inr (.inl ⟨d, ds, e1, e2, e3, e4, same_ sb (.bl _) k⟩)
      · exact .inr (.inr ⟨d, ds, e1, e2, e3, e4, same_ sb (.bl _) k⟩)) σ H Q h
theorem d_in (hu : X.A.units + 65 < cLine) (ha : PE X a (tW X.K cl W f)) (hb : PE X b (tW X.K cl W g)) (hm : behindInMarks .In b = false := by rfl) : PE X (.Compare a [.In] [b] pos) (tD X.K cl W (c2 oIn f g)) := PE.imp (pe_cmpR (op_in_seq.or ((op_inD hu).or (op_inT hu))) ha hb hm) in_i
theorem d_nin (hu : X.A.units + 65 < cLine) (ha : PE X a (tW X.K cl W f)) (hb : PE X b (tW X.K cl W g)) (hm : behindInMarks .NotIn b = false := by rfl) : PE X (.Compare a [.NotIn] [b] pos) (tD X.K cl W (c2 oNin f g)) := PE.imp (pe_cmpR (op_notIn_seq.or ((op_notInD hu).or (op_ninT hu))) ha hb hm) nin_i
theorem t_in (hu : X.A.units + 65 < cLine) (ha : PE X a (tW X.K cl W f)) (hb : PE X b (tW X.K cl W g)) (hm : behindInMarks .In b = false := by rfl) : PT X (.Compare a [.In] [b] pos) (tT X.K cl W (cT (c2 oIn f g))) := PT.imp (pt_cmpR (op_in_seq.or ((op_inD hu).or (op_inT hu))) ha hb hm) (tst_ in_i)
theorem t_nin (hu : X.A.units + 65 < cLine) (ha : PE X a (tW X.K cl W f)) (hb : PE X b (tW X.K cl W g)) (hm : behindInMarks .NotIn b = false := by rfl) : PT X (.Compare a [.NotIn] [b] pos) (tT X.K cl W (cT (c2 oNin f g))) := PT.imp (pt_cmpR (op_notIn_seq.or ((op_notInD hu).or (op_ninT hu))) ha hb hm) (tst_ nin_i)
/-! ### a, b = x, y -/
@[simp] def sPar (i j : Nat) (fa : Av) : Sv := fun ρ => rob (fa ρ) ρ fun ds => match ds with
  | [d, e] => .nx ((ρ.set i (.va d)).set j (.va e))
  | _ => .st
theorem s_par {i j : Nat} {y n2 : Str} {px py pt : Pos} {kt k2 : Nat} {pt2 : Pos} (hc : X.calm = true) (hN : X.N.Nodup) (hi : X.N[i]? = some n) (hj : X.N[j]? = some n2) (hij : i ≠ j)
    (hx : X.env.scope.names.lookup n = some .local) (hy : X.env.scope.names.lookup n2 = some .local) (ha : PA X [a, b] (tA K cl W (fun E _ v d => Dn K cl E v d) fa))
    (hw : swappedStores [.Tuple [.Name n px, .Name n2 py] kt pt] (.Tuple [a, b] k2 pt2) X.env = pure (some [n, n2]))
    (hs : swapsWithSole [.Tuple [.Name n px, .Name n2 py] kt pt] (.Tuple [a, b] k2 pt2) pos.line X.env = pure false := by rfl) :
    PS X (.Assign [.Tuple [.Name n px, .Name n2 py] kt pt] (.Tuple [a, b] k2 pt2) pos) (tS K cl W (sPar i j fa)) :=
  PS.imp (ps_par hc hN hi hj hij hx hy ha hw hs) fun D σ H ⟨E0, H0, E, ρ, r, k⟩ => ⟨E0, H0, E, ρ, r, (rob_an r k).imp fun ds k vs E' H' g s => by
    split at k
    · rename_i d e
      have := DnA.of s
      cases this with
      | @cons v vs' _ _ h1 h2 =>
        cases h2 with
        | @cons v2 vs2 _ _ h2 h3 =>
          cases h3
          exact ⟨v, v2, rfl, k _ E' H' (((r.grow g).setV h1 i).setV h2 j) g.ee⟩
    · exact k.elim⟩
end
end Dl
/-! try: .. except C as e: return .. : several clauses, with and without a name, each of which returns a thing of its own. -/
namespace Dl
open PySem L2 PyProof.Rows
section
variable {X : Cx}
/-- the clauses, each with its class and with what it may hand back of an exception of a class -/
inductive HdR (X : Cx) : List ExceptHandler → List (Value × (Value → V → Prop)) → Prop
  | nil : HdR X [] []
  | plain {x : Str} {c : Value} {b : Stmt} {suite : List Stmt} {np ps : Pos} {hds : List ExceptHandler} {l : List (Value × (Value → V → Prop))} {R : Value → V → Prop} (hc : Names X x c)
      (hsu : ∀ (a : Addr) (oe : Obj) (cls : Value) (pn : List (Addr × Obj)) (v : V), Zc cls none oe → (∃ vs, oe.data = .fields vs) → R cls v → PSs (X.suite a ((a, oe) :: pn)) (b :: suite) (fun D _ H => D.rt v H)) (r : HdR X hds l) :
      HdR X (.ExceptHandler (some (.Name x np)) none (b :: suite) ps :: hds) ((c, R) :: l)
  | named {x n : Str} {i : Nat} {c : Value} {b : Stmt} {suite : List Stmt} {np ps : Pos} {hds : List ExceptHandler} {l : List (Value × (Value → V → Prop))} {R : Value → V → Prop} (hi : X.N[i]? = some n) (hl : X.env.kindOf n = some .local) (hc : Names X x c)
      (hsu : ∀ (a : Addr) (oe : Obj) (cls : Value) (pn : List (Addr × Obj)) (v : V), Zc cls none oe → (∃ vs, oe.data = .fields vs) → R cls v → PSs (X.suite a ((a, oe) :: pn)) (b :: suite) (fun D σ H => σ[i]? = some (some (.ref a)) ∧ D.rt v H)) (r : HdR X hds l) :
      HdR X (.ExceptHandler (some (.Name x np)) (some n) (b :: suite) ps :: hds) ((c, R) :: l)
def wRet (K : PySem.W.Frag) (Wout : L2.WX) (rt : VK) : List (Value × (Value → V → Prop)) → L2.WX
  | [] => Wout
  | (c, R) :: r => fun cls d σ H => ∃ b, PySem.W.exmOne K cls c = some b ∧ (b = true → d = none ∧ ∃ v, R cls v ∧ rt v H) ∧ (b = false → wRet K Wout rt r cls d σ H)
variable {body : List Stmt} {h₀ : ExceptHandler} {hds : List ExceptHandler} {l : List (Value × (Value → V → Prop))} {pos : Pos} {tb : L2.WX → TS} {Wout : L2.WX}
theorem ps_try_ret (hs : X.stack = X.env :: X.outer) (hf : X.env.frame = some X.env.locals) (hN : X.N.Nodup) (tk : Takes X Wout)
    (hb : ∀ (W : L2.WX) (pn : List (Addr × Obj)) (xe : Value → Shared → Prop), Takes (X.tr pn xe) W → PassesOwn (model X.prog X.w) X.A X.env xe → PSs (X.tr pn xe) body (tb W))
    (hh : HdR X (h₀ :: hds) l) : PS X (.Try body (h₀ :: hds) [] [] pos) (fun D σ H => tb (wRet X.K Wout D.rt l) D σ H) := by
  refine ⟨fun pins s σ H D I h => ?_⟩
  have good := I.ok
  have frames : X.A.frames = some (X.env :: X.outer) := by rw [good.frames, hs]
  refine wpAny_Try_except ?_
  have run := (hb (wRet X.K Wout D.rt l) (X.pn ++ pins)
    (fun e t1 => wpAny (model X.prog X.w) X.A (noteFrame e X.env)
      (fun _ t2 => wpAny (model X.prog X.w) X.A (setFlight e none)
        (fun _ t3 => wpAny (model X.prog X.w) X.A (handleBy e X.env (h₀ :: hds)) (SP X pins D) X.xe t3) X.xe t2) X.xe t1)
    (fun u t0 caught => by
      obtain ⟨a, B, sI, pins', σ', H', cls, d, rfl, J0, nb, up, sky, na, os, ag, w⟩ := caught
      have J : Inv X pins σ' H' sI := J0.ofTry good
      have sky2 : Sky B (X.env :: X.outer) a (Zc cls d) X.env.locals t0.heap := by
        rw [← hs]
        exact sky
      show wpAny (model X.prog X.w) X.A (noteFrame (.ref a) X.env) _ _ _
      refine Sky.land Zc.steady frames hf sky2 fun g3 f3 u3 => ?_
      have J3 : Inv X pins σ' H' { t0 with heap := g3 } := J.landed nb f3.1 (up.trans u3) os ag
      obtain ⟨o3, v3, ho3, hz3, hd3⟩ := f3.there
      have away : a ∉ frs (X.env :: X.outer) := fun hm => by
        obtain ⟨_, o', e', hnf⟩ := f3.2.2.1.mem hm
        rw [ho3] at e'
        cases e'
        exact hnf _ hd3
      have a1 : a ≠ X.env.locals := fun z => away (List.mem_filterMap.mpr ⟨X.env, List.mem_cons_self, by rw [hf, z]⟩)
      have a2 : a ∉ X.fs := fun hm => by
        obtain ⟨e, he, q⟩ := List.mem_filterMap.mp hm
        exact away (List.mem_filterMap.mpr ⟨e, List.mem_cons_of_mem _ he, q⟩)
      have S3 := J3.suite ho3 hd3 na a1 a2
      have go : ∀ {hs2 : List ExceptHandler} {l2 : List (Value × (Value → V → Prop))}, HdR X hs2 l2 → wRet X.K Wout D.rt l2 cls d σ' H' →
          wpAny (model X.prog X.w) X.A (handleBy (.ref a) X.env hs2) (SP X pins D) X.xe { t0 with heap := g3 } := by
        intro hs2 l2 hk
        induction hk with
        | nil =>
          intro w2
          refine wpAny_handleBy_nil ?_
          obtain ⟨_, _, _, oe, vs, T, oT, ts', he, hz, hd, h1, hr⟩ := id f3
          unfold PySem.passOn
          refine wpAny_bind (wpAny_field he hd h1 ?_)
          rw [if_neg (show ¬ ((Value.ref T == Value.none) = true) from by simp)]
          have out : wpAny (model X.prog X.w) X.A (setFlight (.ref a) X.env.frame) (fun _ t4 => wpAny (model X.prog X.w) X.A (throw (.ref a) : Sem Flow) (SP X pins D) X.xe t4) X.xe { t0 with heap := g3 } := by
            rw [hf]
            refine HandSPX.setFlight_upZ f3 fun g4 hh4 u4 => wpAny_throw (tk _ _ ?_)
            exact ⟨a, B, sI, pins, σ', H', cls, d, rfl, J, nb, (up.trans u3).trans u4, .inr (.inr (by rw [hs]; exact hh4)), na, os, ag, w2⟩
          first
            | exact wpAny_bind (wpAny_pure (wpAny_bind out))
            | exact wpAny_bind out
        | @plain x c b suite np ps hs3 l3 R hc hsu r ih =>
          intro w2
          obtain ⟨k, hk1, yes, no⟩ := w2
          refine wpAny_handleBy_cons (codeAny_handlers_test ?_) (by intro q; cases q)
          have look : PySem.W.Looks (model X.prog X.w) g3 (typeOf (.ref a)) cls := fun A Q E s k q => wpAny_typeOf_ref (k _ _ ho3) (by rw [hz3.1]; exact q)
          have mat := PySem.W.exm_one (M := model X.prog X.w) (J3.kIn) look hk1
          have ask : ∀ {Q : Value → Shared → Prop} {E : Value → Shared → Prop}, Q c { t0 with heap := g3 } → wpAny (model X.prog X.w) (X.A.mark (some (.ref a))) (eval (.Name x np) X.env) Q E { t0 with heap := g3 } := fun {Q E} q => by
            obtain ⟨hg, hdbg, hm | ⟨hm, hv, hnn⟩⟩ := hc
            · exact ld_glob (X := X.suite a ((a, o3) :: (X.pn ++ pins))) S3 hg hm q hdbg
            · exact ld_blt (X := X.suite a ((a, o3) :: (X.pn ++ pins))) S3 hg hm hv q hnn hdbg
          refine ask (mat.here ?_)
          cases k with
          | true =>
            obtain ⟨ed, v, hR, hrt⟩ := yes rfl
            subst ed
            refine codeAny_handlers_suite ?_
            refine HandSPX.lands_againZ f3 fun g4 f4 u4 => ?_
            have J4 : Inv X pins σ' H' { t0 with heap := g4 } := J.landed nb f4.1 ((up.trans u3).trans u4) os ag
            obtain ⟨o4, v4, ho4, hz4, hd4⟩ := f4.there
            have S4 := J4.suite ho4 hd4 na a1 a2
            refine wpAny_mono ((hsu a o4 cls (X.pn ++ pins) v hz4 ⟨_, hd4⟩ hR).run [] _ _ H' { nx := fun _ _ => False, rt := D.rt } S4 hrt) (fun f t6 hsp => ?_) (fun _ _ z => False.elim z)
            cases f with
            | ret u =>
              obtain ⟨v6, σ6, H6, S6, r6, q6⟩ := hsp
              exact ⟨_, _, _, S6.unsuite good, r6, q6⟩
            | next => obtain ⟨_, _, _, q6⟩ := hsp; exact q6.elim
            | brk => obtain ⟨_, _, _, q6⟩ := hsp; exact q6.elim
            | cont => obtain ⟨_, _, _, q6⟩ := hsp; exact q6.elim
          | false =>
            show wpAny _ X.A (handleBy (.ref a) X.env hs3) _ _ _
            exact ih (no rfl)
        | @named x n i c b suite np ps hs3 l3 R hi hl hc hsu r ih =>
          intro w2
          obtain ⟨k, hk1, yes, no⟩ := w2
          refine wpAny_handleBy_cons (codeAny_handlers_test ?_) (by intro q; cases q)
          have look : PySem.W.Looks (model X.prog X.w) g3 (typeOf (.ref a)) cls := fun A Q E s k q => wpAny_typeOf_ref (k _ _ ho3) (by rw [hz3.1]; exact q)
          have mat := PySem.W.exm_one (M := model X.prog X.w) (J3.kIn) look hk1
          have ask : ∀ {Q : Value → Shared → Prop} {E : Value → Shared → Prop}, Q c { t0 with heap := g3 } → wpAny (model X.prog X.w) (X.A.mark (some (.ref a))) (eval (.Name x np) X.env) Q E { t0 with heap := g3 } := fun {Q E} q => by
            obtain ⟨hg, hdbg, hm | ⟨hm, hv, hnn⟩⟩ := hc
            · exact ld_glob (X := X.suite a ((a, o3) :: (X.pn ++ pins))) S3 hg hm q hdbg
            · exact ld_blt (X := X.suite a ((a, o3) :: (X.pn ++ pins))) S3 hg hm hv q hnn hdbg
          refine ask (mat.here ?_)
          cases k with
          | true =>
            obtain ⟨ed, v, hR, hrt⟩ := yes rfl
            subst ed
            refine codeAny_handlers_suite_as ?_
            refine HandSPX.lands_againZ f3 fun g4 f4 u4 => ?_
            have J4 : Inv X pins σ' H' { t0 with heap := g4 } := J.landed nb f4.1 ((up.trans u3).trans u4) os ag
            obtain ⟨o4, v4, ho4, hz4, hd4⟩ := f4.there
            have S4 := J4.suite ho4 hd4 na a1 a2
            refine store_ok (X := X.suite a ((a, o4) :: (X.pn ++ pins))) (v := .ref a) S4 hN hi (.inl hl) rfl (fun t5 S5 => ?_) (.inr hl)
            have hlen : i < σ'.length := by
              rw [S4.len]
              exact (List.getElem?_eq_some_iff.mp hi).1
            refine wpAny_mono ((hsu a o4 cls (X.pn ++ pins) v hz4 ⟨_, hd4⟩ hR).run [] t5 _ H' { nx := fun _ _ => False, rt := D.rt } S5 ⟨List.getElem?_set_self hlen, hrt⟩) (fun f t6 hsp => ?_) (fun _ _ z => False.elim z)
            cases f with
            | ret u =>
              obtain ⟨v6, σ6, H6, S6, r6, q6⟩ := hsp
              exact gone_ok (S6.unsuite good) hN hi hl fun t7 J7 => ⟨_, _, _, J7, r6, q6⟩
            | next => obtain ⟨_, _, _, q6⟩ := hsp; exact q6.elim
            | brk => obtain ⟨_, _, _, q6⟩ := hsp; exact q6.elim
            | cont => obtain ⟨_, _, _, q6⟩ := hsp; exact q6.elim
          | false =>
            show wpAny _ X.A (handleBy (.ref a) X.env hs3) _ _ _
            exact ih (no rfl)
      exact go hh w) PassesOwn.looking).run [] s σ H D (I.toTry _) h
  refine wpAny_mono run (fun f t1 hsp => ?_) (fun e t1 he => he)
  cases f with
  | next =>
    obtain ⟨σ', H', J', q⟩ := hsp
    exact wpAny_execs_nil ⟨σ', H', J'.ofTry good, q⟩
  | brk =>
    obtain ⟨σ', H', J', q⟩ := hsp
    exact ⟨σ', H', J'.ofTry good, q⟩
  | cont =>
    obtain ⟨σ', H', J', q⟩ := hsp
    exact ⟨σ', H', J'.ofTry good, q⟩
  | ret u =>
    obtain ⟨v, σ', H', J', r, q⟩ := hsp
    exact ⟨v, σ', H', J'.ofTry good, r, q⟩
end
end Dl
namespace Dl
open PySem L2 PyProof.Rows
/-- the own classes: each under ShareError alone -/
def subX (n c : Str) : Bool := decide (n = c) || decide (c = "ShareError")
structure XPair (K : PySem.W.Frag) (cl : Str → Addr) (n c : Str) : Prop where
  m : PySem.W.exmOne K (.ref (cl n)) (.ref (cl c)) = some (subX n c)
  i : PySem.W.kitOne K (.ref (cl n)) (.ref (cl c)) = some (subX n c)
/-- the classes that are raised, that are asked for -/
def XTab (K : PySem.W.Frag) (cl : Str → Addr) (ns cs : List Str) : Prop := (∀ n ∈ ns, ExcC K (cl n)) ∧ ∀ n ∈ ns, ∀ c ∈ cs, XPair K cl n c
section
variable {K : PySem.W.Frag} {cl : Str → Addr} {X : Cx} {W : L2.WX} {ns cs : List Str} {g : Sv} {body : List Stmt} {h₀ : ExceptHandler} {hds : List ExceptHandler} {pos : Pos}
def dispX (ns cs : List Str) : List (Str × (Str → Str)) → Str → List Sl → Ro
  | [], n, ρ => .ex n ρ
  | (c, h) :: r, n, ρ => if n ∈ ns ∧ c ∈ cs then cond (subX n c) (.rt (.str (h n))) (dispX ns cs r n ρ) else .st
@[simp] def sTryR (ns cs : List Str) (g : Sv) (hs : List (Str × (Str → Str))) : Sv := fun ρ => match g ρ with
  | .ex n ρ' => dispX ns cs hs n ρ'
  | r => r
def RX (cl : Str → Addr) (ns : List Str) (h : Str → Str) : Value → V → Prop := fun c v => ∃ n, n ∈ ns ∧ c = .ref (cl n) ∧ v = .str (h n)
theorem disp_ {D : Ends} {E0 H0 E H : Hp} {σ : L2.St} {ρ : List Sl} {n : Str} (xt : XTab K cl ns cs) (r : Rl K cl E0 H0 E H σ ρ) : ∀ {hs : List (Str × (Str → Str))}, Ros K cl W D E0 H0 E (dispX ns cs hs n ρ) →
    wRet K W D.rt (hs.map fun p => (.ref (cl p.1), RX cl ns p.2)) (.ref (cl n)) none σ H
  | [], k => k σ E H r (Sub.refl _)
  | (c, h) :: hs, k => by
    unfold dispX at k
    split at k
    · rename_i hm
      have pr := xt.2 n hm.1 c hm.2
      refine ⟨_, pr.m, fun hb => ⟨rfl, .str (h n), ⟨n, hm.1, rfl, rfl⟩, ?_⟩, fun hb => ?_⟩
      · rw [hb] at k
        exact k _ E H r.gr (.str _)
      · rw [hb] at k
        exact disp_ xt r k
    · exact k.elim
theorem s_tryR {hs : List (Str × (Str → Str))} (xt : XTab X.K cl ns cs) (hst : X.stack = X.env :: X.outer) (hf : X.env.frame = some X.env.locals) (hN : X.N.Nodup) (tk : Takes X W)
    (hb : ∀ (W : L2.WX) (pn : List (Addr × Obj)) (xe : Value → Shared → Prop), Takes (X.tr pn xe) W → PassesOwn (model X.prog X.w) X.A X.env xe → PSs (X.tr pn xe) body (tS X.K cl W g))
    (hh : HdR X (h₀ :: hds) (hs.map fun p => (.ref (cl p.1), RX cl ns p.2))) : PS X (.Try body (h₀ :: hds) [] [] pos) (tS X.K cl W (sTryR ns cs g hs)) :=
  PS.imp (ps_try_ret hst hf hN tk hb hh) fun D σ H ⟨E0, H0, E, ρ, r, k⟩ => by
    refine ⟨E0, H0, E, ρ, r, ?_⟩
    unfold sTryR at k
    cases q : g ρ with
    | ex n ρ' =>
      rw [q] at k
      dsimp only at k
      intro σ' E' H' r' s
      exact disp_ xt r' (Ros.up k s)
    | st => rw [q] at k; exact k
    | nx _ => rw [q] at k; exact k
    | bk _ => rw [q] at k; exact k
    | ct _ => rw [q] at k; exact k
    | rt _ => rw [q] at k; exact k
/-! ### the clauses' suites -/
theorem hd_const {x : Str} {s : Str} {j : Nat} {np ps p p2 : Pos} {l : List (Value × (Value → V → Prop))} (gc : X.mg x = some (.ref (cl x))) (r : HdR X hds l) (hg : Gl X x := by rfl) (hd : (x == ("__debug__" : Str)) = false := by decide) :
    HdR X (.ExceptHandler (some (.Name x np)) none [.Return (some (.Constant (.str s) j p)) p2] ps :: hds) ((.ref (cl x), RX cl ns fun _ => s) :: l) :=
  .plain ⟨hg, hd, .inl gc⟩ (fun a oe cls pn v _ _ hR => ⟨fun pins s' σ H D I h => by
    obtain ⟨n, _, _, rfl⟩ := hR
    exact (pss_one (ps_ret pe_str)).run pins s' σ H D I h⟩) r
theorem isE_ {Y : Cx} {x n2 : Str} {i : Nat} {a D : Addr} {oe : Obj} {pn : List (Addr × Obj)} {p1 p2 p3 p4 : Pos} (C : ExcC X.K D) (hz : Zc (.ref D) none oe) (hf : ∃ vs, oe.data = .fields vs)
    (hgi : Gl X "isinstance") (hmi : X.mg "isinstance" = none) (hv : PE (X.suite a ((a, oe) :: pn)) (.Name n2 p2) (tVar i)) (hgx : Gl X x) (gc : X.mg x = some (.ref (cl x))) (hd : (x == ("__debug__" : Str)) = false)
    (he1 : starEach [.Name x p3] X.env = (false, eval (.Name x p3) X.env) :: starEach [] X.env) (he : starEach [.Name n2 p2, .Name x p3] X.env = (false, eval (.Name n2 p2) X.env) :: starEach [.Name x p3] X.env) (hpl : (backTo p4 (starEach [.Name x p3] X.env)).any (·.1) = false) :
    PE (X.suite a ((a, oe) :: pn)) (.Call (.Name "isinstance" p1) [.Name n2 p2, .Name x p3] [] p4) (tCB (rIsE X.K D a) (tCons (tVar i) (tCons (tC (.ref (cl x))) tNil))) :=
  pe_callB (call_isE C hz hf) hgi hmi (by decide +kernel) (pa_cons hv (pa_cons (pe_glob hgx gc rfl hd) pa_nil he1) he) (by decide) (by decide) he hpl
theorem hd_two {x n2 xa xb s1 s2 : Str} {i j1 j2 : Nat} {np ps p q1 q2 q3 q4 q5 q6 q7 q8 q9 qa qb qc qd : Pos} {l : List (Value × (Value → V → Prop))} (xt : XTab X.K cl ns cs) (ha : xa ∈ cs) (hb : xb ∈ cs) (gc : X.mg x = some (.ref (cl x))) (ga : X.mg xa = some (.ref (cl xa))) (gb : X.mg xb = some (.ref (cl xb)))
    (hmi : X.mg "isinstance" = none) (r : HdR X hds l) (hi : X.N[i]? = some n2) (hl : X.env.kindOf n2 = some .local) (hg : Gl X x := by rfl) (hd : (x == ("__debug__" : Str)) = false := by decide) (hgi : Gl X "isinstance" := by rfl) (hga : Gl X xa := by rfl) (hda : (xa == ("__debug__" : Str)) = false := by decide) (hgb : Gl X xb := by rfl) (hdb : (xb == ("__debug__" : Str)) = false := by decide)
    (hdn : (n2 == ("__debug__" : Str)) = false := by decide) (hcd : (n2 == ("__classdict__" : Str)) = false := by decide)
    (e1 : starEach [.Name xa q3] X.env = (false, eval (.Name xa q3) X.env) :: starEach [] X.env := by rfl) (e2 : starEach [.Name n2 q2, .Name xa q3] X.env = (false, eval (.Name n2 q2) X.env) :: starEach [.Name xa q3] X.env := by rfl) (e3 : (backTo q4 (starEach [.Name xa q3] X.env)).any (·.1) = false := by rfl)
    (f1 : starEach [.Name xb q7] X.env = (false, eval (.Name xb q7) X.env) :: starEach [] X.env := by rfl) (f2 : starEach [.Name n2 q6, .Name xb q7] X.env = (false, eval (.Name n2 q6) X.env) :: starEach [.Name xb q7] X.env := by rfl) (f3 : (backTo q8 (starEach [.Name xb q7] X.env)).any (·.1) = false := by rfl) :
    HdR X (.ExceptHandler (some (.Name x np)) (some n2) [.Return (some (.IfExp (.BoolOp .And [.Call (.Name "isinstance" q1) [.Name n2 q2, .Name xa q3] [] q4, .UnaryOp .Not (.Call (.Name "isinstance" q5) [.Name n2 q6, .Name xb q7] [] q8) q9] qa) (.Constant (.str s1) j1 qb) (.Constant (.str s2) j2 qc) qd)) p] ps :: hds)
      ((.ref (cl x), RX cl ns fun n => cond (subX n xa && !subX n xb) s1 s2) :: l) :=
  .named hi hl ⟨hg, hd, .inl gc⟩ (fun a oe cls pn v hz hf hR => ⟨fun pins s' σ H D I h => by
    obtain ⟨n, hn, rfl, rfl⟩ := hR
    obtain ⟨hσ, hrt⟩ := h
    have hrt : D.rt (.str (cond (subX n xa && !subX n xb) s1 s2)) H := hrt
    have C := xt.1 n hn
    have A1 := (xt.2 n hn xa ha).i
    have A2 := (xt.2 n hn xb hb).i
    refine (pss_one (ps_ret (pe_ifExp (PW.pt (pw_and (pt_val (isE_ (Y := X) C hz hf hgi hmi (pe_var hi (.inl hl) hdn hcd) hga ga hda e1 e2 e3) (fun _ => rfl)) (pw_and1 (pt_not (pt_val (isE_ (Y := X) C hz hf hgi hmi (pe_var hi (.inl hl) hdn hcd) hgb gb hdb f1 f2 f3) (fun _ => rfl)))))) pe_str pe_str))).run pins s' σ H D I ?_
    refine ⟨_, hσ, .ref (cl xa), .ref (cl xa), subX n xa, rfl, fun u hu => hu, A1, _, rfl, ?_⟩
    cases q : subX n xa with
    | false =>
      rw [q] at hrt
      exact iteF (iteF hrt)
    | true =>
      refine iteT ⟨_, hσ, .ref (cl xb), .ref (cl xb), subX n xb, rfl, fun u hu => hu, A2, _, rfl, ?_⟩
      rw [q] at hrt
      cases q2 : subX n xb with
      | false => rw [q2] at hrt; exact iteT hrt
      | true => rw [q2] at hrt; exact iteF hrt⟩) r
end
end Dl
/-! The head's facts, with a check of one's own beside the library's. -/
namespace Dl
open PySem L2 PyProof.Rows
abbrev Fg := PySem.W.Frag
def obsE (fa : List He.Fa) (fn : List He.DefD) (ex : Fg → Bool) (K : Fg) : He.AlD := (((fa.all fun f => f.ok K) && fn.all fun d => d.ok K) && ex K, fn.map fun d => He.fnW K d.at_)
def SaysE (fa : List He.Fa) (fn : List He.DefD) (ex : Fg → Bool) (K : Fg) : Prop := obsE fa fn ex K = He.valD fn
def obsEG (n : Nat) (fa : List He.Fa) (fn : List He.DefD) (ex : Fg → Bool) (g : Addr → Option Obj) : He.AlD := obsE fa fn ex (He.frG g (He.asD g n))
def hookE (n : Nat) (fa : List He.Fa) (fn : List He.DefD) (ex : Fg → Bool) : PySem.W.Hook where
  α := He.AlD
  obs := fun s => obsEG n fa fn ex s.heap.get?
  val := fun _ => He.valD fn
  says := fun _ h => ∃ K : Fg, K.In h ∧ SaysE fa fn ex K
  of := fun _ _ e => ⟨_, He.frG_in, e⟩
  keeps := fun _ _ _ ⟨K, hK, c⟩ k => ⟨K, PySem.W.Frag.In.keeps hK k, c⟩
theorem obsEG_eq {n : Nat} {fa : List He.Fa} {fn : List He.DefD} {ex : Fg → Bool} {g : Addr → Option Obj} {s : Shared} (h : ∀ a, g a = s.heap.get? a) : obsEG n fa fn ex g = (hookE n fa fn ex).obs s := by
  have e : g = s.heap.get? := funext h
  rw [e]; rfl
section
variable {fa : List He.Fa} {fn : List He.DefD} {ex : Fg → Bool} {K : Fg}
theorem SaysE.all (c : SaysE fa fn ex K) : (((fa.all fun f => f.ok K) && fn.all fun d => d.ok K) && ex K) = true := congrArg (fun z : He.AlD => z.1) c
theorem SaysE.d (c : SaysE fa fn ex K) : He.SaysD fa fn K := by
  have h := (Bool.and_eq_true_iff.mp c.all).1
  have e : fn.map (fun d => He.fnW K d.at_) = fn.map He.DefD.val := congrArg (fun z : He.AlD => z.2) c
  unfold He.SaysD He.obsD He.valD
  rw [h, e]
theorem SaysE.own (c : SaysE fa fn ex K) : ex K = true := (Bool.and_eq_true_iff.mp c.all).2
end
/-! ### checks -/
def excCB (K : Fg) (D : Addr) : Bool :=
  decide (PySem.W.findIn K (.ref D) "__getattribute__" = some (some (.builtin "BaseException.__getattribute__"))) && decide (PySem.W.findIn K (.ref D) "__getattr__" = some none) &&
  decide (PySem.W.subIn K (.ref D) (.type "BaseException") = some true) && PySem.W.hasDictIn K D && decide (PySem.W.findIn K (.ref D) "__class__" = some (some (.builtin "object.__class__"))) &&
  decide (PySem.W.specialIn K (.builtin "object.__class__") "__get__" = some (some (.builtin "getset_descriptor.__get__"))) && decide (PySem.W.takesIn K (.builtin "object.__class__") = some true) && decide (PySem.W.mroIn K D (.type "object") = some true)
theorem excCB_ok {K : Fg} {D : Addr} (h : excCB K D = true) : ExcC K D := by
  unfold excCB at h
  simp only [Bool.and_eq_true, decide_eq_true_eq] at h
  obtain ⟨⟨⟨⟨⟨⟨⟨h1, h2⟩, h3⟩, h4⟩, h5⟩, h6⟩, h7⟩, h8⟩ := h
  exact ⟨h1, h2, h3, h4, h5, h6, h7, h8⟩
def tabB (ns cs : List Str) (K : Fg) : Bool := (ns.all fun n => excCB K (He.ga K n)) && ns.all fun n => cs.all fun c =>
  decide (PySem.W.exmOne K (.ref (He.ga K n)) (.ref (He.ga K c)) = some (subX n c)) && decide (PySem.W.kitOne K (.ref (He.ga K n)) (.ref (He.ga K c)) = some (subX n c))
theorem tabB_ok {ns cs : List Str} {K : Fg} (h : tabB ns cs K = true) : XTab K (He.ga K) ns cs := by
  unfold tabB at h
  simp only [Bool.and_eq_true, List.all_eq_true, decide_eq_true_eq] at h
  exact ⟨fun n hn => excCB_ok (h.1 n hn), fun n hn c hc => ⟨(h.2 n hn c hc).1, (h.2 n hn c hc).2⟩⟩
theorem XCls.of {K : Fg} {h : Heap} {mg : Str → Option Value} (X : K.In h) (G : h.Ns mainGlobals mg) {n : Str} (g : (He.Fa.glo n).ok K = true) (e : (He.Fa.exc n).ok K = true) : XCls K mg n (He.ga K n) := by
  obtain ⟨h1, h2, h3, h4⟩ := He.exc_ok e
  exact ⟨He.glo_ok X G g, h1, h2, h3, h4⟩
theorem Dfn.of {K : Fg} {h : Heap} {mg : Str → Option Value} (X : K.In h) (G : h.Ns mainGlobals mg) {n q : Str} {st : Stmt} {ps : List Str} {f : Addr} {fd : FuncData} {kws : List (Str × V)} (e : f = He.ga K n) (F : FunD K n n (defArgs st) (defBody st) (defScope st) [] kws f fd) (g : (He.Fa.glo n).ok K = true)
    (hb : ∀ (kV doc pm : Value) (an : Option Addr) (cdv ct : Value) (us : List Value), us.length = ps.length → bindArgs (PySem.W.fnOf n n (defArgs st) (defBody st) (defScope st) .none kV doc pm an cdv ct) ⟨us, []⟩ = pure (ps.zip us)) : Dfn K mg n st ps := by
  subst e
  exact ⟨_, _, He5.fun_of F, He.glo_ok X G g, F.bindsA hb⟩
/-- the law's end: what F says of every list of at most 63 ints -/
theorem law_sp {K : Fg} {cl : Str → Addr} {F : List Dt → Rs Dt} (h : ∀ ns : List Int, ns.length ≤ 63 → F [.scr ns] = .ok (.bl true)) (H : Hp) (a : Addr) (ns : List Int) (hl : ns.length ≤ 63) (hS : SqL K H a (ns.map V.int)) :
    spX K cl F [.ref a] H (fun v _ => v = .bl true) fun _ _ _ => False := by
  refine ⟨H, [.scr ns], Sb.refl H, .cons (.scr hS) .nil, ?_⟩
  rw [h ns hl]
  intro v E' H' _ hd
  cases hd; rfl
end Dl
namespace Dl
open PySem L2 PyProof.Rows
theorem cx_no {P : Program} {w : World} {H : Hp} {s : Shared} {e : Value} {s' : Shared} (h : L2.CX P w [] H s (fun _ _ _ => False) e s') : False := by
  obtain ⟨_, _, _, _, _, _, _, _, _, _, _, _, z⟩ := h
  exact z
/-- the law's def on data, carried to the row's walk -/
theorem walk_law {l : PySem.W.OpenLaw} {q : Program} {loose : List Str} {XP : (Str → Option Value) → Heap → Prop} {YP : World → Heap → Prop} {d : DefRec} {k : Nat} {x n : Str} {st : Stmt} {F : List Dt → Rs Dt}
    (hn : l.most = some 63) (hdf : d.params.defaults = []) (hr : Room k callerA) (hname : d.name = n)
    (hY : ∀ (w : World) (mg : Str → Option Value) (h : Heap), YP w h → h.Ns mainGlobals mg →
      ∃ K : Fg, K.In h ∧ Dfn K mg n st [x] ∧ ∀ base : Heap, Fn l.prog w K mg base (He.ga K) n k [x] F)
    (hF : ∀ ns : List Int, ns.length ≤ 63 → F [.scr ns] = .ok (.bl true)) : PySem.W.WalkO q loose XP YP l.row.toRowW d [] (fun f vs => PySem.call f vs) :=
  Att.attach_call hn hdf fun w s₀ s₁ mg mb fa o pm cd doc a vs ns G Y ho hd hcd hmg hobj hints hlen hg => by
    obtain ⟨K, KX, ⟨f, fd, Fu, hf, hb⟩, hFn⟩ := hY w mg _ Y G.T.g
    rw [hname] at hmg
    have e : fa = f := by
      rw [hf] at hmg
      cases hmg
      rfl
    subst e
    have ok : ∀ base : Heap, K.In base → base.Ns mainGlobals mg → FnOk l.prog w K mg base (L2.CX l.prog w) k fa fd [x] (spX K (He.ga K) F) := fun base _ _ => by
      obtain ⟨f2, fd2, G2, hm2, _, _, oc2, od2, osl2, lk2⟩ := (hFn base).ex
      rw [hf] at hm2
      cases hm2
      obtain ⟨oc, od, kV, doc, pm, an, cdv, ct, osl, _, lk, _⟩ := Fu.ex
      rw [lk] at lk2
      cases lk2
      exact G2
    exact law_call (CX := L2.CX l.prog w) (sp := spX K (He.ga K) F) KX G.T.g G.T.b G.T.builtins G.T.nolimit hg hobj hints (Nat.le_trans hlen (by decide)) hr ok (fun s u => hb s [u] rfl)
      (fun H _ hS => law_sp hF H a ns hlen hS) fun H e s' z => cx_no z
end Dl
namespace Dl
open PySem L2
/-- no object, no dict, no script -/
def plain : Dt → Bool
  | .dct _ | .obj _ _ | .scr _ => false
  | _ => true
@[simp] theorem kit_ii : kitB "int" "int" = some true := by decide +kernel
@[simp] theorem kit_bi : kitB "bool" "int" = some true := by decide +kernel
@[simp] theorem kit_ni : kitB "NoneType" "int" = some false := by decide +kernel
@[simp] theorem kit_si : kitB "str" "int" = some false := by decide +kernel
@[simp] theorem kit_li : kitB "list" "int" = some false := by decide +kernel
@[simp] theorem kit_ti : kitB "tuple" "int" = some false := by decide +kernel
@[simp] theorem kit_ib : kitB "int" "bool" = some false := by decide +kernel
@[simp] theorem kit_bb : kitB "bool" "bool" = some true := by decide +kernel
@[simp] theorem kit_is : kitB "int" "str" = some false := by decide +kernel
@[simp] theorem kit_bs : kitB "bool" "str" = some false := by decide +kernel
@[simp] theorem kit_ns : kitB "NoneType" "str" = some false := by decide +kernel
@[simp] theorem kit_ss : kitB "str" "str" = some true := by decide +kernel
@[simp] theorem kit_ls : kitB "list" "str" = some false := by decide +kernel
@[simp] theorem kit_ts : kitB "tuple" "str" = some false := by decide +kernel
@[simp] theorem kit_it : kitB "int" "tuple" = some false := by decide +kernel
@[simp] theorem kit_bt : kitB "bool" "tuple" = some false := by decide +kernel
@[simp] theorem kit_nt : kitB "NoneType" "tuple" = some false := by decide +kernel
@[simp] theorem kit_st : kitB "str" "tuple" = some false := by decide +kernel
@[simp] theorem kit_lt : kitB "list" "tuple" = some false := by decide +kernel
@[simp] theorem kit_tt : kitB "tuple" "tuple" = some true := by decide +kernel
/-- isinstance as a function -/
def isI (T : String) (d : Dt) : Bool := match d, T with
  | .int _, "int" => true
  | .bl _, "int" => true
  | .bl _, "bool" => true
  | .str _, "str" => true
  | .tup _, "tuple" => true
  | _, _ => false
def isInt : Dt → Bool
  | .int _ | .bl _ => true
  | _ => false
def isBl : Dt → Bool
  | .bl _ => true
  | _ => false
def isStr : Dt → Bool
  | .str _ => true
  | _ => false
def isTup : Dt → Bool
  | .tup _ => true
  | _ => false
theorem oIsi_int {d : Dt} (h : plain d = true) : oIsi "int" d = some (.bl (isInt d)) := by
  cases d <;> first | exact Bool.noConfusion h | simp [oIsi, isInt]
theorem oIsi_bool {d : Dt} (h : plain d = true) : (isInt d = true → oIsi "bool" d = some (.bl (isBl d))) := by
  cases d <;> first | exact Bool.noConfusion h | simp [oIsi, isBl, isInt]
theorem oIsi_str {d : Dt} (h : plain d = true) : oIsi "str" d = some (.bl (isStr d)) := by
  cases d <;> first | exact Bool.noConfusion h | simp [oIsi, isStr]
theorem oIsi_tup {d : Dt} (h : plain d = true) : oIsi "tuple" d = some (.bl (isTup d)) := by
  cases d <;> first | exact Bool.noConfusion h | simp [oIsi, isTup]
/-- a whole number from lo to hi -/
def isW (d : Dt) (lo hi : Int) : Bool := match d with
  | .int i => decide (lo ≤ i) && decide (i ≤ hi)
  | _ => false
@[simp] theorem isW_non (lo hi : Int) : isW .non lo hi = false := rfl
@[simp] theorem isW_bl (b : Bool) (lo hi : Int) : isW (.bl b) lo hi = false := rfl
@[simp] theorem isW_str (b : Str) (lo hi : Int) : isW (.str b) lo hi = false := rfl
@[simp] theorem isW_lst (b : List Dt) (lo hi : Int) : isW (.lst b) lo hi = false := rfl
@[simp] theorem isW_tup (b : List Dt) (lo hi : Int) : isW (.tup b) lo hi = false := rfl
@[simp] theorem ne_uc : (("up" : Str) = "cut") = False := by rw [eq_iff_iff, iff_false]; decide +kernel
@[simp] theorem ne_cu : (("cut" : Str) = "up") = False := by rw [eq_iff_iff, iff_false]; decide +kernel
@[simp] theorem ne_nc : (("near" : Str) = "cut") = False := by rw [eq_iff_iff, iff_false]; decide +kernel
@[simp] theorem ne_nu : (("near" : Str) = "up") = False := by rw [eq_iff_iff, iff_false]; decide +kernel
theorem small_of {i : Int} (h1 : -18446744073709551616 < i) (h2 : i < 18446744073709551616) : small i = true := by
  unfold small
  rw [Bool.and_eq_true]
  exact ⟨decide_eq_true h1, decide_eq_true h2⟩
theorem atI_natD {α : Type} {xs : List α} {k : Nat} (h : k < xs.length) : atI xs (k : Int) = some xs[k] := atI_nat (List.getElem?_eq_getElem h)
theorem atI_int {α : Type} {xs : List α} {k : Int} (h0 : 0 ≤ k) (h : k < xs.length) : atI xs k = xs[k.toNat]? := by
  obtain ⟨n, rfl⟩ := Int.eq_ofNat_of_zero_le h0
  have hn : n < xs.length := by omega
  have : atI xs (n : Int) = some xs[n] := atI_natD hn
  rw [this]
  simp [hn]
/-- an item of a list of ints -/
def at0 (xs : List Int) (k : Int) : Int := xs.getD k.toNat 0
theorem atI_map {xs : List Int} {k : Int} (h0 : 0 ≤ k) (h : k < xs.length) : atI (xs.map Dt.int) k = some (.int (at0 xs k)) := by
  rw [atI_int h0 (by simpa using h), List.getElem?_map]
  have hn : k.toNat < xs.length := by omega
  unfold at0
  simp [hn]
theorem at0_mem {xs : List Int} {k : Int} (h0 : 0 ≤ k) (h : k < xs.length) : at0 xs k ∈ xs := by
  have hn : k.toNat < xs.length := by omega
  unfold at0
  simp [hn]
theorem goFor_step {tg : Gv} {fg : List Nat} {body : Sv} {d : Dt} {ds : List Dt} {ρ ρ1 ρ2 : List Sl} (h1 : tg d ρ = some ρ1) (h2 : body ρ1 = .nx ρ2) : goFor tg fg body (d :: ds) ρ = goFor tg fg body ds (fgt fg ρ2) := by
  rw [goFor_cons, h1]
  show (match body ρ1 with
      | .nx ρ2 => goFor tg fg body ds (fgt fg ρ2)
      | .ct ρ2 => goFor tg fg body ds (fgt fg ρ2)
      | .bk ρ2 => .nx ρ2
      | .rt d => .rt d
      | .ex n ρ2 => .ex n ρ2
      | .st => .st) = _
  rw [h2]
end Dl
namespace Gk02
open PySem L2 Dl
/-! the text by places -/
def top (i : Nat) : Stmt := PySem.Challenge.pw_shownshares_k02_shares.main.body.getD i (.Pass ⟨0, 0, 0, 0⟩)
abbrev s_is_within : Stmt := top 9
abbrev N_is_within : List Str := ["thing", "low", "high"]
abbrev p_is_within : List Str := ["thing", "low", "high"]
abbrev s_look_number : Stmt := top 12
abbrev N_look_number : List Str := ["number"]
abbrev p_look_number : List Str := ["number"]
abbrev s_up_over : Stmt := top 13
abbrev N_up_over : List Str := ["top", "bottom"]
abbrev p_up_over : List Str := ["top", "bottom"]
abbrev s_share_of : Stmt := top 14
abbrev N_share_of : List Str := ["count", "number", "units", "word"]
abbrev p_share_of : List Str := ["count", "number", "units", "word"]
abbrev s_share : Stmt := top 15
abbrev N_share : List Str := ["count", "number", "units", "word"]
abbrev p_share : List Str := ["count", "number", "units", "word"]
abbrev s__law_cell : Stmt := top 17
abbrev N__law_cell : List Str := ["_law_script", "_law_k"]
abbrev p__law_cell : List Str := ["_law_script", "_law_k"]
abbrev s__law_row : Stmt := top 18
abbrev N__law_row : List Str := ["_law_script", "_law_at", "_law_cell_here", "_law_found", "_law_time"]
abbrev p__law_row : List Str := ["_law_script", "_law_at"]
abbrev s__law_asked : Stmt := top 19
abbrev N__law_asked : List Str := ["_law_row_here", "_law_at", "_law_most"]
abbrev p__law_asked : List Str := ["_law_row_here", "_law_at", "_law_most"]
abbrev s__law_share_word : Stmt := top 20
abbrev N__law_share_word : List Str := ["_law_count", "_law_asked_here", "_law_units", "_law_word", "e"]
abbrev p__law_share_word : List Str := ["_law_count", "_law_asked_here", "_law_units", "_law_word"]
abbrev s_law : Stmt := top 21
abbrev N_law : List Str := ["_law_script", "_law_row_here", "_law_asked_here", "_law_count", "_law_units", "_law_told", "_law_twice", "_law_odd", "_law_word"]
abbrev p_law : List Str := ["_law_script"]
abbrev tabN : List Str := ["BadCounts", "BadNumber", "BadShowing"]
abbrev tabC : List Str := ["BadShowing", "BadCounts", "ShareError", "BadPoll", "BadNumber"]
structure Txt (K : PySem.W.Frag) (mg : Str → Option Value) (cl : Str → Addr) : Prop where
  b_bool : mg "bool" = none
  b_int : mg "int" = none
  b_isinstance : mg "isinstance" = none
  b_len : mg "len" = none
  b_range : mg "range" = none
  b_str : mg "str" = none
  c_MOST_ASKED : ∃ t, mg "MOST_ASKED" = some (.int 100000 t)
  c_MOST_UNITS : ∃ t, mg "MOST_UNITS" = some (.int 100 t)
  c_WORDS : ∃ a, mg "WORDS" = some (.ref a) ∧ ∀ E, SqT K E a [V.str "cut", V.str "near", V.str "up"]
  x_BadCounts : XCls K mg "BadCounts" (cl "BadCounts")
  x_BadNumber : XCls K mg "BadNumber" (cl "BadNumber")
  x_BadShowing : XCls K mg "BadShowing" (cl "BadShowing")
  g_BadCounts : mg "BadCounts" = some (.ref (cl "BadCounts"))
  g_BadNumber : mg "BadNumber" = some (.ref (cl "BadNumber"))
  g_BadPoll : mg "BadPoll" = some (.ref (cl "BadPoll"))
  g_BadShowing : mg "BadShowing" = some (.ref (cl "BadShowing"))
  g_ShareError : mg "ShareError" = some (.ref (cl "ShareError"))
  xt : XTab K cl tabN tabC
  d_is_within : Dfn K mg "is_within" s_is_within p_is_within
  d_look_number : Dfn K mg "look_number" s_look_number p_look_number
  d_up_over : Dfn K mg "up_over" s_up_over p_up_over
  d_share_of : Dfn K mg "share_of" s_share_of p_share_of
  d_share : Dfn K mg "share" s_share p_share
  d__law_cell : Dfn K mg "_law_cell" s__law_cell p__law_cell
  d__law_row : Dfn K mg "_law_row" s__law_row p__law_row
  d__law_asked : Dfn K mg "_law_asked" s__law_asked p__law_asked
  d__law_share_word : Dfn K mg "_law_share_word" s__law_share_word p__law_share_word
  d_law : Dfn K mg "law" s_law p_law
section
variable {P : Program} {w : World} {K : PySem.W.Frag} {mg : Str → Option Value} {base : Heap} {cl : Str → Addr}
theorem sc_is_within : FnScope N_is_within p_is_within (defScope s_is_within) := ⟨rfl, rfl, rfl, by decide +kernel, rfl, by decide +kernel, by decide +kernel⟩
def g_is_within : Sv := (sRet (cAndV (c1 (oIsi "int") (cVw 0)) (cAndV (cNotV (c1 (oIsi "bool") (cVw 0))) (cChain oLe oLe (cV 1) (cV 0) (cV 2)))))
def F_is_within : List Dt → Rs Dt := runF 3 3 g_is_within
theorem ok_is_within (T : Txt K mg cl) : Fn P w K mg base cl "is_within" 1 p_is_within F_is_within := by
  exact Dfn.mk T.d_is_within sc_is_within fun hr tk hp hu hu65 nd =>
    (ss_one (s_ret (d_and (d_isi (T := "int") rfl T.b_isinstance rfl T.b_int (by decide +kernel) (w_var (pv 0))) (d_and (d_not (d_isi (T := "bool") rfl T.b_isinstance rfl T.b_bool (by decide +kernel) (w_var (pv 0)))) (d_one (d_chain op_le op_le (d_var (pv 1)) (d_var (pv 0)) (d_var (pv 2))))))))
theorem sc_look_number : FnScope N_look_number p_look_number (defScope s_look_number) := ⟨rfl, rfl, rfl, by decide +kernel, rfl, by decide +kernel, by decide +kernel⟩
def g_look_number : Sv := (sIf (cNot (cTru (cCall F_is_within (aCons (cV 0) (aCons (cK (.int 1)) (aCons (cK (.int 100000)) aNil)))))) (sRaise "BadNumber") sNil)
def F_look_number : List Dt → Rs Dt := runF 1 1 g_look_number
theorem ok_look_number (T : Txt K mg cl) : Fn P w K mg base cl "look_number" 2 p_look_number F_look_number := by
  obtain ⟨t_MOST_ASKED, h_MOST_ASKED⟩ := T.c_MOST_ASKED
  exact Dfn.mk T.d_look_number sc_look_number fun hr tk hp hu hu65 nd =>
    (ss_one (s_if (t_not (t_tru (d_w (d_call (ok_is_within T) (hr.mono (by decide)) tk rfl (a_cons moD (d_var (pv 0)) (a_cons moD d_int (a_cons moD (d_const (v := .int 100000) (pe_glob rfl h_MOST_ASKED ⟨_, rfl⟩) fun _ => .int _) a_nil))))))) (ss_one (s_raise rfl tk T.x_BadNumber rfl)) ss_nil))
theorem sc_up_over : FnScope N_up_over p_up_over (defScope s_up_over) := ⟨rfl, rfl, rfl, by decide +kernel, rfl, by decide +kernel, by decide +kernel⟩
def g_up_over : Sv := (sRet (c1 oNeg (c2 oDiv (c1 oNeg (cV 0)) (cV 1))))
def F_up_over : List Dt → Rs Dt := runF 2 2 g_up_over
theorem ok_up_over (T : Txt K mg cl) : Fn P w K mg base cl "up_over" 1 p_up_over F_up_over := by
  exact Dfn.mk T.d_up_over sc_up_over fun hr tk hp hu hu65 nd =>
    (ss_one (s_ret (d_neg (d_fdiv (d_neg (d_var (pv 0))) (d_var (pv 1))))))
theorem sc_share_of : FnScope N_share_of p_share_of (defScope s_share_of) := ⟨rfl, rfl, rfl, by decide +kernel, rfl, by decide +kernel, by decide +kernel⟩
def g_share_of : Sv := (sSeq (sIf (cT (c2 oEq (cVw 3) (cK (.str "cut")))) (sRet (c2 oDiv (c2 oMul (cV 2) (cV 0)) (cV 1))) sNil)
  (sSeq (sIf (cT (c2 oEq (cVw 3) (cK (.str "up")))) (sRet (cCall F_up_over (aCons (c2 oMul (cV 2) (cV 0)) (aCons (cV 1) aNil)))) sNil)
  (sRet (c2 oDiv (c2 oAdd (c2 oMul (c2 oMul (cK (.int 2)) (cV 2)) (cV 0)) (cV 1)) (c2 oMul (cK (.int 2)) (cV 1))))))
def F_share_of : List Dt → Rs Dt := runF 4 4 g_share_of
theorem ok_share_of (T : Txt K mg cl) : Fn P w K mg base cl "share_of" 2 p_share_of F_share_of := by
  exact Dfn.mk T.d_share_of sc_share_of fun hr tk hp hu hu65 nd =>
    (ss_cons (s_if (t_eq hu (w_var (pv 3)) (d_w d_str)) (ss_one (s_ret (d_fdiv (d_mul (d_var (pv 2)) (d_var (pv 0))) (d_var (pv 1))))) ss_nil)
  (ss_cons (s_if (t_eq hu (w_var (pv 3)) (d_w d_str)) (ss_one (s_ret (d_call (ok_up_over T) (hr.mono (by decide)) tk rfl (a_cons moD (d_mul (d_var (pv 2)) (d_var (pv 0))) (a_cons moD (d_var (pv 1)) a_nil))))) ss_nil)
  (ss_one (s_ret (d_fdiv (d_add (d_mul (d_mul d_int (d_var (pv 2))) (d_var (pv 0))) (d_var (pv 1))) (d_mul d_int (d_var (pv 1))))))))
theorem sc_share : FnScope N_share p_share (defScope s_share) := ⟨rfl, rfl, rfl, by decide +kernel, rfl, by decide +kernel, by decide +kernel⟩
def g_share : Sv := (sSeq (sExpr (cCall F_look_number (aCons (cV 1) aNil)))
  (sSeq (sIf (cNot (cTru (cCall F_is_within (aCons (cV 0) (aCons (cK (.int 0)) (aCons (cV 1) aNil)))))) (sRaise "BadCounts") sNil)
  (sSeq (sIf (cOr (cNot (cTru (cCall F_is_within (aCons (cV 2) (aCons (cK (.int 2)) (aCons (cK (.int 100)) aNil)))))) (cOr (cNot (cT (c1 (oIsi "str") (cVw 3)))) (cT (c2 oNin (cVw 3) (cK (.tup [.str "cut", .str "near", .str "up"])))))) (sRaise "BadShowing") sNil)
  (sRet (cCall F_share_of (aCons (cV 0) (aCons (cV 1) (aCons (cV 2) (aCons (cV 3) aNil)))))))))
def F_share : List Dt → Rs Dt := runF 4 4 g_share
theorem ok_share (T : Txt K mg cl) : Fn P w K mg base cl "share" 3 p_share F_share := by
  obtain ⟨t_MOST_UNITS, h_MOST_UNITS⟩ := T.c_MOST_UNITS
  obtain ⟨a_WORDS, h_WORDS, s_WORDS⟩ := T.c_WORDS
  exact Dfn.mk T.d_share sc_share fun hr tk hp hu hu65 nd =>
    (ss_cons (s_expr (d_call (ok_look_number T) (hr.mono (by decide)) tk rfl (a_cons moD (d_var (pv 1)) a_nil)))
  (ss_cons (s_if (t_not (t_tru (d_w (d_call (ok_is_within T) (hr.mono (by decide)) tk rfl (a_cons moD (d_var (pv 0)) (a_cons moD d_int (a_cons moD (d_var (pv 1)) a_nil))))))) (ss_one (s_raise rfl tk T.x_BadCounts rfl)) ss_nil)
  (ss_cons (s_if (PW.pt (t_or (t_not (t_tru (d_w (d_call (ok_is_within T) (hr.mono (by decide)) tk rfl (a_cons moD (d_var (pv 2)) (a_cons moD d_int (a_cons moD (d_const (v := .int 100) (pe_glob rfl h_MOST_UNITS ⟨_, rfl⟩) fun _ => .int _) a_nil))))))) (t_or (t_not (t_val (d_isi (T := "str") rfl T.b_isinstance rfl T.b_str (by decide +kernel) (w_var (pv 3))))) (t_or1 (t_nin hu65 (w_var (pv 3)) (d_w (d_const (v := .ref a_WORDS) (pe_glob rfl h_WORDS rfl) fun E => .tup (s_WORDS E) (.cons (.str _) (.cons (.str _) (.cons (.str _) .nil)))))))))) (ss_one (s_raise rfl tk T.x_BadShowing rfl)) ss_nil)
  (ss_one (s_ret (d_call (ok_share_of T) (hr.mono (by decide)) tk rfl (a_cons moD (d_var (pv 0)) (a_cons moD (d_var (pv 1)) (a_cons moD (d_var (pv 2)) (a_cons moD (d_var (pv 3)) a_nil))))))))))
theorem sc__law_cell : FnScope N__law_cell p__law_cell (defScope s__law_cell) := ⟨rfl, rfl, rfl, by decide +kernel, rfl, by decide +kernel, by decide +kernel⟩
def g__law_cell : Sv := (sSeq (sIf (cT (c2 oLt (cV 1) (cB1 oLen (aCons (cVw 0) aNil)))) (sRet (c2 oIx (cVw 0) (cV 1))) sNil)
  (sRet (cK (.int 0))))
def F__law_cell : List Dt → Rs Dt := runF 2 2 g__law_cell
theorem ok__law_cell (T : Txt K mg cl) : Fn P w K mg base cl "_law_cell" 1 p__law_cell F__law_cell := by
  exact Dfn.mk T.d__law_cell sc__law_cell fun hr tk hp hu hu65 nd =>
    (ss_cons (s_if (t_lt (d_var (pv 1)) (d_len rfl T.b_len (a_cons moW (w_var (pv 0)) a_nil))) (ss_one (s_ret (d_ix (w_var (pv 0)) (d_var (pv 1)) fun _ _ => rfl))) ss_nil)
  (ss_one (s_ret d_int)))
theorem sc__law_row : FnScope N__law_row p__law_row (defScope s__law_row) := ⟨rfl, rfl, rfl, by decide +kernel, rfl, by decide +kernel, by decide +kernel⟩
def b__law_row_1 : Sv := (sIf (cT (c2 oLt (cCall F__law_cell (aCons (cV 0) (aCons (cV 1) aNil))) (c2 oPow (cK (.int 10)) (cK (.int 18))))) (sSeq (sSet 2 (c2 oMod (c2 oAdd (c2 oAdd (c2 oAdd (c2 oMul (cV 2) (cK (.int 48271))) (c2 oMul (cK (.int 131)) (cV 4))) (cK (.int 7))) (cCall F__law_cell (aCons (cV 0) (aCons (c2 oMod (c2 oAdd (c2 oAdd (cV 1) (cK (.int 1))) (cV 4)) (cK (.int 20))) aNil)))) (cK (.int 2147483647))))
  (sApp 3 (c2 oMod (c2 oDiv (cV 2) (cK (.int 11))) (cK (.int 1000))))) (sSeq (sApp 3 (c2 oMod (cV 2) (cK (.int 1000))))
  (sSet 2 (c2 oDiv (cV 2) (cK (.int 1000))))))
def g__law_row : Sv := (sSeq (sSet 2 (cCall F__law_cell (aCons (cV 0) (aCons (cV 1) aNil))))
  (sSeq (sSetN 3 (cLst aNil))
  (sSeq (sFor (cRng1 (aCons (cK (.int 60)) aNil)) (gN 4) [4] b__law_row_1)
  (sFz 3 (sRet (cV 3))))))
def F__law_row : List Dt → Rs Dt := runF 2 5 g__law_row
theorem ok__law_row (T : Txt K mg cl) : Fn P w K mg base cl "_law_row" 2 p__law_row F__law_row := by
  exact Dfn.mk T.d__law_row sc__law_row fun hr tk hp hu hu65 nd =>
    (ss_cons (s_set (i := 2) nd rfl (by first | exact Or.inl rfl | exact Or.inr rfl) (d_call (ok__law_cell T) (hr.mono (by decide)) tk rfl (a_cons moD (d_var (pv 0)) (a_cons moD (d_var (pv 1)) a_nil))))
  (ss_cons (s_setN (i := 3) nd rfl (by first | exact Or.inl rfl | exact Or.inr rfl) (n_lst a_nil))
  (ss_cons (s_for [4] hp rfl (i_range1 rfl T.b_range (a_cons moD d_int a_nil)) (g_name (i := 4) nd rfl (by first | exact Or.inl rfl | exact Or.inr rfl))
  (ss_one (s_if (t_lt (d_call (ok__law_cell T) (hr.mono (by decide)) tk rfl (a_cons moD (d_var (pv 0)) (a_cons moD (d_var (pv 1)) a_nil))) (d_pow d_int d_int)) (ss_cons (s_set (i := 2) nd rfl (by first | exact Or.inl rfl | exact Or.inr rfl) (d_mod (d_add (d_add (d_add (d_mul (d_var (pv 2)) d_int) (d_mul d_int (d_var (pv 4)))) d_int) (d_call (ok__law_cell T) (hr.mono (by decide)) tk rfl (a_cons moD (d_var (pv 0)) (a_cons moD (d_mod (d_add (d_add (d_var (pv 1)) d_int) (d_var (pv 4))) d_int) a_nil)))) d_int))
  (ss_one (s_app (i := 3) (pv 3) (d_mod (d_fdiv (d_var (pv 2)) d_int) d_int)))) (ss_cons (s_app (i := 3) (pv 3) (d_mod (d_var (pv 2)) d_int))
  (ss_one (s_set (i := 2) nd rfl (by first | exact Or.inl rfl | exact Or.inr rfl) (d_fdiv (d_var (pv 2)) d_int)))))))
  (ss_one (s_fz 3 (s_ret (d_var (pv 3))))))))
theorem sc__law_asked : FnScope N__law_asked p__law_asked (defScope s__law_asked) := ⟨rfl, rfl, rfl, by decide +kernel, rfl, by decide +kernel, by decide +kernel⟩
def g__law_asked : Sv := (sRet (c2 oAdd (cK (.int 1)) (c2 oMod (c2 oIx (cVw 0) (c2 oMod (cV 1) (cK (.int 60)))) (c2 oIx (cLst (aCons (cK (.int 6)) (aCons (cK (.int 30)) (aCons (cV 2) aNil)))) (c2 oMod (c2 oIx (cVw 0) (c2 oMod (c2 oAdd (cV 1) (cK (.int 1))) (cK (.int 60)))) (cK (.int 3)))))))
def F__law_asked : List Dt → Rs Dt := runF 3 3 g__law_asked
theorem ok__law_asked (T : Txt K mg cl) : Fn P w K mg base cl "_law_asked" 1 p__law_asked F__law_asked := by
  exact Dfn.mk T.d__law_asked sc__law_asked fun hr tk hp hu hu65 nd =>
    (ss_one (s_ret (d_add d_int (d_mod (d_ix (w_var (pv 0)) (d_mod (d_var (pv 1)) d_int) fun _ _ => rfl) (d_ix (n_w (n_lst (a_cons moD d_int (a_cons moD d_int (a_cons moD (d_var (pv 2)) a_nil))))) (d_mod (d_ix (w_var (pv 0)) (d_mod (d_add (d_var (pv 1)) d_int) d_int) fun _ _ => rfl) d_int) fun _ _ => rfl)))))
theorem sc__law_share_word : FnScope N__law_share_word p__law_share_word (defScope s__law_share_word) := ⟨rfl, rfl, rfl, by decide +kernel, rfl, by decide +kernel, by decide +kernel⟩
def g__law_share_word : Sv := (sTryR tabN tabC (sRet (cCall F_share (aCons (cV 0) (aCons (cV 1) (aCons (cV 2) (aCons (cV 3) aNil)))))) [("BadNumber", fun n => cond (subX n "ShareError" && !subX n "BadPoll") "number" "other"), ("BadCounts", fun n => cond (subX n "ShareError" && !subX n "BadPoll") "counts" "other"), ("BadShowing", fun _ => "showing")])
def F__law_share_word : List Dt → Rs Dt := runF 4 5 g__law_share_word
theorem ok__law_share_word (T : Txt K mg cl) : Fn P w K mg base cl "_law_share_word" 4 p__law_share_word F__law_share_word := by
  have xt := T.xt
  exact Dfn.mk T.d__law_share_word sc__law_share_word fun hr tk hp hu hu65 nd =>
    (ss_one (s_tryR xt rfl rfl nd tk (fun W pn xe tk hp => (ss_one (s_ret (d_call (ok_share T) (hr.mono (by decide)) tk rfl (a_cons moD (d_var (pv 0)) (a_cons moD (d_var (pv 1)) (a_cons moD (d_var (pv 2)) (a_cons moD (d_var (pv 3)) a_nil)))))))) (hd_two (i := 4) xt (by decide) (by decide) T.g_BadNumber T.g_ShareError T.g_BadPoll T.b_isinstance (hd_two (i := 4) xt (by decide) (by decide) T.g_BadCounts T.g_ShareError T.g_BadPoll T.b_isinstance (hd_const (cl := cl) T.g_BadShowing .nil) rfl rfl) rfl rfl)))
theorem sc_law : FnScope N_law p_law (defScope s_law) := ⟨rfl, rfl, rfl, by decide +kernel, rfl, by decide +kernel, by decide +kernel⟩
def g_law : Sv := (sSeq (sSet 1 (cCall F__law_row (aCons (cV 0) (aCons (cK (.int 2)) aNil))))
  (sSeq (sSet 2 (cCall F__law_asked (aCons (cV 1) (aCons (cK (.int 0)) (aCons (cK (.int 100000)) aNil)))))
  (sSeq (sSet 3 (c2 oMod (c2 oIx (cVw 1) (cK (.int 2))) (c2 oAdd (cV 2) (cK (.int 1)))))
  (sSeq (sSet 4 (c2 oAdd (cK (.int 2)) (c2 oMod (c2 oIx (cVw 1) (cK (.int 3))) (cK (.int 99)))))
  (sSeq (sSetN 5 (cLc [8] (cSeqT (cTup (aCons (cK (.str "cut")) (aCons (cK (.str "near")) (aCons (cK (.str "up")) aNil))))) (gN 8) tvYes (cCall F_share (aCons (cV 3) (aCons (cV 2) (aCons (cV 4) (aCons (cV 8) aNil)))))))
  (sSeq (sIf (cNot (cT (cChain oLe oLt (c2 oMul (c2 oIx (cVw 5) (cK (.int 0))) (cV 2)) (c2 oMul (cV 4) (cV 3)) (c2 oMul (c2 oAdd (c2 oIx (cVw 5) (cK (.int 0))) (cK (.int 1))) (cV 2))))) (sRet (cK (.bl false))) sNil)
  (sSeq (sSet 6 (c2 oMul (c2 oMul (cK (.int 2)) (cV 4)) (cV 3)))
  (sSeq (sIf (cNot (cT (cChain oLe oLt (c2 oMul (c2 oSub (c2 oMul (cK (.int 2)) (c2 oIx (cVw 5) (cK (.int 1)))) (cK (.int 1))) (cV 2)) (cV 6) (c2 oMul (c2 oAdd (c2 oMul (cK (.int 2)) (c2 oIx (cVw 5) (cK (.int 1)))) (cK (.int 1))) (cV 2))))) (sRet (cK (.bl false))) sNil)
  (sSeq (sIf (cNot (cT (cChain oLt oLe (c2 oMul (c2 oSub (c2 oIx (cVw 5) (cK (.int 2))) (cK (.int 1))) (cV 2)) (c2 oMul (cV 4) (cV 3)) (c2 oMul (c2 oIx (cVw 5) (cK (.int 2))) (cV 2))))) (sRet (cK (.bl false))) sNil)
  (sSeq (sSet 7 (c2 oIx (cLst (aCons (cK .non) (aCons (cK (.int 0)) (aCons (cK (.int 100001)) (aCons (cK (.bl true)) (aCons (c1 oNeg (cK (.int 1))) aNil)))))) (c2 oMod (c2 oIx (cVw 1) (cK (.int 4))) (cK (.int 5)))))
  (sSeq (sIf (cOr (cT (c2 oNe (cCall F__law_share_word (aCons (cK .non) (aCons (cV 7) (aCons (cK .non) (aCons (cK .non) aNil))))) (cK (.str "number")))) (cT (c2 oNe (cCall F__law_share_word (aCons (cK (.int 0)) (aCons (cK (.int 100000)) (aCons (cK (.int 2)) (aCons (cK (.str "cut")) aNil))))) (cK (.int 0))))) (sRet (cK (.bl false))) sNil)
  (sSeq (sSet 7 (c2 oIx (cLst (aCons (cK .non) (aCons (c1 oNeg (cK (.int 1))) (aCons (c2 oAdd (cV 2) (cK (.int 1))) (aCons (cK (.bl true)) aNil))))) (c2 oMod (c2 oIx (cVw 1) (cK (.int 5))) (cK (.int 4)))))
  (sSeq (sIf (cT (c2 oNe (cCall F__law_share_word (aCons (cV 7) (aCons (cV 2) (aCons (cK .non) (aCons (cK .non) aNil))))) (cK (.str "counts")))) (sRet (cK (.bl false))) sNil)
  (sSeq (sIf (cT (c2 oNe (cCall F__law_share_word (aCons (cV 3) (aCons (cV 2) (aCons (c2 oIx (cLst (aCons (cK .non) (aCons (cK (.int 1)) (aCons (cK (.int 101)) (aCons (cK (.bl true)) aNil))))) (c2 oMod (c2 oIx (cVw 1) (cK (.int 6))) (cK (.int 4)))) (aCons (cK (.str "cut")) aNil))))) (cK (.str "showing")))) (sRet (cK (.bl false))) sNil)
  (sRet (c2 oEq (cCall F__law_share_word (aCons (cV 3) (aCons (cV 2) (aCons (cV 4) (aCons (c2 oIx (cLst (aCons (cK .non) (aCons (cK (.str "")) (aCons (cK (.str "down")) (aCons (cK (.int 1)) aNil))))) (c2 oMod (c2 oIx (cVw 1) (cK (.int 7))) (cK (.int 4)))) aNil))))) (cK (.str "showing"))))))))))))))))))
def F_law : List Dt → Rs Dt := runF 1 9 g_law
theorem ok_law (T : Txt K mg cl) : Fn P w K mg base cl "law" 5 p_law F_law := by
  exact Dfn.mk T.d_law sc_law fun hr tk hp hu hu65 nd =>
    (ss_cons (s_set (i := 1) nd rfl (by first | exact Or.inl rfl | exact Or.inr rfl) (d_call (ok__law_row T) (hr.mono (by decide)) tk rfl (a_cons moD (d_var (pv 0)) (a_cons moD d_int a_nil))))
  (ss_cons (s_set (i := 2) nd rfl (by first | exact Or.inl rfl | exact Or.inr rfl) (d_call (ok__law_asked T) (hr.mono (by decide)) tk rfl (a_cons moD (d_var (pv 1)) (a_cons moD d_int (a_cons moD d_int a_nil)))))
  (ss_cons (s_set (i := 3) nd rfl (by first | exact Or.inl rfl | exact Or.inr rfl) (d_mod (d_ix (w_var (pv 1)) d_int fun _ _ => rfl) (d_add (d_var (pv 2)) d_int)))
  (ss_cons (s_set (i := 4) nd rfl (by first | exact Or.inl rfl | exact Or.inr rfl) (d_add d_int (d_mod (d_ix (w_var (pv 1)) d_int fun _ _ => rfl) d_int)))
  (ss_cons (s_setLc (i := 5) (own := [("_law_word", 8)]) (by decide) rfl nd rfl rfl (sw_true rfl rfl rfl (by decide +kernel)) (i_tup (d_tup (a_cons moD d_str (a_cons moD d_str (a_cons moD d_str a_nil))))) (blkOk_by (own := [("_law_word", 8)]) (N := N_law) (sc := defScope s_law) (by decide +kernel)) (fun _ _ _ _ _ => (g_name (i := 8) nd rfl (by first | exact Or.inl rfl | exact Or.inr rfl))) (fun _ _ _ _ _ => ts_nil) (fun _ _ _ _ _ => (d_call (ok_share T) (hr.mono (by decide)) takes0 rfl (a_cons moD (d_var (pv 3)) (a_cons moD (d_var (pv 2)) (a_cons moD (d_var (pv 4)) (a_cons moD (d_var (pv 8)) a_nil)))))))
  (ss_cons (s_if (t_not (t_chain op_le op_lt (d_mul (d_ix (w_var (pv 5)) d_int fun _ _ => rfl) (d_var (pv 2))) (d_mul (d_var (pv 4)) (d_var (pv 3))) (d_mul (d_add (d_ix (w_var (pv 5)) d_int fun _ _ => rfl) d_int) (d_var (pv 2))))) (ss_one (s_ret d_bl)) ss_nil)
  (ss_cons (s_set (i := 6) nd rfl (by first | exact Or.inl rfl | exact Or.inr rfl) (d_mul (d_mul d_int (d_var (pv 4))) (d_var (pv 3))))
  (ss_cons (s_if (t_not (t_chain op_le op_lt (d_mul (d_sub (d_mul d_int (d_ix (w_var (pv 5)) d_int fun _ _ => rfl)) d_int) (d_var (pv 2))) (d_var (pv 6)) (d_mul (d_add (d_mul d_int (d_ix (w_var (pv 5)) d_int fun _ _ => rfl)) d_int) (d_var (pv 2))))) (ss_one (s_ret d_bl)) ss_nil)
  (ss_cons (s_if (t_not (t_chain op_lt op_le (d_mul (d_sub (d_ix (w_var (pv 5)) d_int fun _ _ => rfl) d_int) (d_var (pv 2))) (d_mul (d_var (pv 4)) (d_var (pv 3))) (d_mul (d_ix (w_var (pv 5)) d_int fun _ _ => rfl) (d_var (pv 2))))) (ss_one (s_ret d_bl)) ss_nil)
  (ss_cons (s_set (i := 7) nd rfl (by first | exact Or.inl rfl | exact Or.inr rfl) (d_ix (n_w (n_lst (a_cons moD d_non (a_cons moD d_int (a_cons moD d_int (a_cons moD d_bl (a_cons moD (d_neg d_int) a_nil))))))) (d_mod (d_ix (w_var (pv 1)) d_int fun _ _ => rfl) d_int) fun _ _ => rfl))
  (ss_cons (s_if (PW.pt (t_or (t_ne hu (d_w (d_call (ok__law_share_word T) (hr.mono (by decide)) tk rfl (a_cons moD d_non (a_cons moD (d_var (pv 7)) (a_cons moD d_non (a_cons moD d_non a_nil)))))) (d_w d_str)) (t_or1 (t_ne hu (d_w (d_call (ok__law_share_word T) (hr.mono (by decide)) tk rfl (a_cons moD d_int (a_cons moD d_int (a_cons moD d_int (a_cons moD d_str a_nil)))))) (d_w d_int))))) (ss_one (s_ret d_bl)) ss_nil)
  (ss_cons (s_set (i := 7) nd rfl (by first | exact Or.inl rfl | exact Or.inr rfl) (d_ix (n_w (n_lst (a_cons moD d_non (a_cons moD (d_neg d_int) (a_cons moD (d_add (d_var (pv 2)) d_int) (a_cons moD d_bl a_nil)))))) (d_mod (d_ix (w_var (pv 1)) d_int fun _ _ => rfl) d_int) fun _ _ => rfl))
  (ss_cons (s_if (t_ne hu (d_w (d_call (ok__law_share_word T) (hr.mono (by decide)) tk rfl (a_cons moD (d_var (pv 7)) (a_cons moD (d_var (pv 2)) (a_cons moD d_non (a_cons moD d_non a_nil)))))) (d_w d_str)) (ss_one (s_ret d_bl)) ss_nil)
  (ss_cons (s_if (t_ne hu (d_w (d_call (ok__law_share_word T) (hr.mono (by decide)) tk rfl (a_cons moD (d_var (pv 3)) (a_cons moD (d_var (pv 2)) (a_cons moD (d_ix (n_w (n_lst (a_cons moD d_non (a_cons moD d_int (a_cons moD d_int (a_cons moD d_bl a_nil)))))) (d_mod (d_ix (w_var (pv 1)) d_int fun _ _ => rfl) d_int) fun _ _ => rfl) (a_cons moD d_str a_nil)))))) (d_w d_str)) (ss_one (s_ret d_bl)) ss_nil)
  (ss_one (s_ret (d_eq hu (d_w (d_call (ok__law_share_word T) (hr.mono (by decide)) tk rfl (a_cons moD (d_var (pv 3)) (a_cons moD (d_var (pv 2)) (a_cons moD (d_var (pv 4)) (a_cons moD (d_ix (n_w (n_lst (a_cons moD d_non (a_cons moD d_str (a_cons moD d_str (a_cons moD d_int a_nil)))))) (d_mod (d_ix (w_var (pv 1)) d_int fun _ _ => rfl) d_int) fun _ _ => rfl) a_nil)))))) (d_w d_str))))))))))))))))))
end
/-! the head -/
def fnL : List He.DefD := [⟨("is_within", none), "is_within", "is_within", defArgs s_is_within, defBody s_is_within, defScope s_is_within, [], []⟩, ⟨("look_number", none), "look_number", "look_number", defArgs s_look_number, defBody s_look_number, defScope s_look_number, [], []⟩, ⟨("up_over", none), "up_over", "up_over", defArgs s_up_over, defBody s_up_over, defScope s_up_over, [], []⟩, ⟨("share_of", none), "share_of", "share_of", defArgs s_share_of, defBody s_share_of, defScope s_share_of, [], []⟩, ⟨("share", none), "share", "share", defArgs s_share, defBody s_share, defScope s_share, [], []⟩, ⟨("_law_cell", none), "_law_cell", "_law_cell", defArgs s__law_cell, defBody s__law_cell, defScope s__law_cell, [], []⟩, ⟨("_law_row", none), "_law_row", "_law_row", defArgs s__law_row, defBody s__law_row, defScope s__law_row, [], []⟩, ⟨("_law_asked", none), "_law_asked", "_law_asked", defArgs s__law_asked, defBody s__law_asked, defScope s__law_asked, [], []⟩, ⟨("_law_share_word", none), "_law_share_word", "_law_share_word", defArgs s__law_share_word, defBody s__law_share_word, defScope s__law_share_word, [], []⟩, ⟨("law", none), "law", "law", defArgs s_law, defBody s_law, defScope s_law, [], []⟩]
def faL : List He.Fa := [.glo "is_within", .glo "look_number", .glo "up_over", .glo "share_of", .glo "share", .glo "_law_cell", .glo "_law_row", .glo "_law_asked", .glo "_law_share_word", .glo "law", .glo "BadCounts", .glo "BadNumber", .glo "BadPoll", .glo "BadShowing", .glo "ShareError", .exc "BadCounts", .exc "BadNumber", .exc "BadShowing", .free "bool", .free "int", .free "isinstance", .free "len", .free "range", .free "str", .int "MOST_ASKED" 100000, .int "MOST_UNITS" 100, .glo "WORDS"]
def exL (K : Fg) : Bool := He.tupB K "WORDS" [He.Dv.str "cut", He.Dv.str "near", He.Dv.str "up"] && tabB tabN tabC K && true
abbrev R : PySem.W.OpenRow := PySem.W.OpenLaw.row PySem.Challenge.rw_shownshares_k02_shares
abbrev hk : PySem.W.Hook := hookE 4 faL fnL exL
def ob (s : PySem.W.SharedT) : He.AlD := obsEG 4 faL fnL exL (HandSHeadRun.getT s)
theorem ob_eq (s : PySem.W.SharedT) : ob s = hk.obs s.abs := obsEG_eq (HandSHeadRun.getT_eq s)
def loose0 : List PySem.Str := ["ShareError", "BadShowing", "BadPoll", "BadNumber", "BadCounts", "MOST_UNITS", "WORDS", "is_within", "MOST_ASKED", "look_number", "up_over", "share_of", "share", "_law_cell", "_law_row", "_law_asked", "_law_share_word"]
def loose : List PySem.Str := loose0
theorem run (w : World) : HandSHeadRun.RunEq R (PySem.W.view R.prog [21]) hk ob 2000 loose w := by
  intro os
  kernel_rfl
theorem facts {K : Fg} {h : Heap} {mg : Str → Option Value} (X : K.In h) (G : h.Ns mainGlobals mg) (c : SaysE faL fnL exL K) : Txt K mg (He.ga K) := by
  have c1 := c.d
  have ce := c.own
  unfold exL at ce
  simp only [Bool.and_true, Bool.and_eq_true] at ce
  exact {
    b_bool := He.free_ok X G (c1.fact 18 (f := .free "bool") rfl),
    b_int := He.free_ok X G (c1.fact 19 (f := .free "int") rfl),
    b_isinstance := He.free_ok X G (c1.fact 20 (f := .free "isinstance") rfl),
    b_len := He.free_ok X G (c1.fact 21 (f := .free "len") rfl),
    b_range := He.free_ok X G (c1.fact 22 (f := .free "range") rfl),
    b_str := He.free_ok X G (c1.fact 23 (f := .free "str") rfl),
    c_MOST_ASKED := He.int_ok X G (c1.fact 24 (f := .int "MOST_ASKED" 100000) rfl),
    c_MOST_UNITS := He.int_ok X G (c1.fact 25 (f := .int "MOST_UNITS" 100) rfl),
    c_WORDS := ⟨_, He.glo_ok X G (c1.fact 26 (f := .glo "WORDS") rfl), fun E => He.tupB_ok (ce.1) E⟩,
    x_BadCounts := XCls.of X G (c1.fact 10 (f := .glo "BadCounts") rfl) (c1.fact 15 (f := .exc "BadCounts") rfl),
    x_BadNumber := XCls.of X G (c1.fact 11 (f := .glo "BadNumber") rfl) (c1.fact 16 (f := .exc "BadNumber") rfl),
    x_BadShowing := XCls.of X G (c1.fact 13 (f := .glo "BadShowing") rfl) (c1.fact 17 (f := .exc "BadShowing") rfl),
    g_BadCounts := He.glo_ok X G (c1.fact 10 (f := .glo "BadCounts") rfl),
    g_BadNumber := He.glo_ok X G (c1.fact 11 (f := .glo "BadNumber") rfl),
    g_BadPoll := He.glo_ok X G (c1.fact 12 (f := .glo "BadPoll") rfl),
    g_BadShowing := He.glo_ok X G (c1.fact 13 (f := .glo "BadShowing") rfl),
    g_ShareError := He.glo_ok X G (c1.fact 14 (f := .glo "ShareError") rfl),
    xt := tabB_ok (ce.2),
    d_is_within := by
      obtain ⟨_, F⟩ := c1.def_ 0 (d := fnL[0]) rfl
      exact Dfn.of (n := "is_within") (st := s_is_within) (ps := p_is_within) X G (q := "is_within") rfl F (c1.fact 0 (f := .glo "is_within") rfl) (fun _ _ _ _ _ _ us hl => match us, hl with | [_, _, _], _ => rfl),
    d_look_number := by
      obtain ⟨_, F⟩ := c1.def_ 1 (d := fnL[1]) rfl
      exact Dfn.of (n := "look_number") (st := s_look_number) (ps := p_look_number) X G (q := "look_number") rfl F (c1.fact 1 (f := .glo "look_number") rfl) (fun _ _ _ _ _ _ us hl => match us, hl with | [_], _ => rfl),
    d_up_over := by
      obtain ⟨_, F⟩ := c1.def_ 2 (d := fnL[2]) rfl
      exact Dfn.of (n := "up_over") (st := s_up_over) (ps := p_up_over) X G (q := "up_over") rfl F (c1.fact 2 (f := .glo "up_over") rfl) (fun _ _ _ _ _ _ us hl => match us, hl with | [_, _], _ => rfl),
    d_share_of := by
      obtain ⟨_, F⟩ := c1.def_ 3 (d := fnL[3]) rfl
      exact Dfn.of (n := "share_of") (st := s_share_of) (ps := p_share_of) X G (q := "share_of") rfl F (c1.fact 3 (f := .glo "share_of") rfl) (fun _ _ _ _ _ _ us hl => match us, hl with | [_, _, _, _], _ => rfl),
    d_share := by
      obtain ⟨_, F⟩ := c1.def_ 4 (d := fnL[4]) rfl
      exact Dfn.of (n := "share") (st := s_share) (ps := p_share) X G (q := "share") rfl F (c1.fact 4 (f := .glo "share") rfl) (fun _ _ _ _ _ _ us hl => match us, hl with | [_, _, _, _], _ => rfl),
    d__law_cell := by
      obtain ⟨_, F⟩ := c1.def_ 5 (d := fnL[5]) rfl
      exact Dfn.of (n := "_law_cell") (st := s__law_cell) (ps := p__law_cell) X G (q := "_law_cell") rfl F (c1.fact 5 (f := .glo "_law_cell") rfl) (fun _ _ _ _ _ _ us hl => match us, hl with | [_, _], _ => rfl),
    d__law_row := by
      obtain ⟨_, F⟩ := c1.def_ 6 (d := fnL[6]) rfl
      exact Dfn.of (n := "_law_row") (st := s__law_row) (ps := p__law_row) X G (q := "_law_row") rfl F (c1.fact 6 (f := .glo "_law_row") rfl) (fun _ _ _ _ _ _ us hl => match us, hl with | [_, _], _ => rfl),
    d__law_asked := by
      obtain ⟨_, F⟩ := c1.def_ 7 (d := fnL[7]) rfl
      exact Dfn.of (n := "_law_asked") (st := s__law_asked) (ps := p__law_asked) X G (q := "_law_asked") rfl F (c1.fact 7 (f := .glo "_law_asked") rfl) (fun _ _ _ _ _ _ us hl => match us, hl with | [_, _, _], _ => rfl),
    d__law_share_word := by
      obtain ⟨_, F⟩ := c1.def_ 8 (d := fnL[8]) rfl
      exact Dfn.of (n := "_law_share_word") (st := s__law_share_word) (ps := p__law_share_word) X G (q := "_law_share_word") rfl F (c1.fact 8 (f := .glo "_law_share_word") rfl) (fun _ _ _ _ _ _ us hl => match us, hl with | [_, _, _, _], _ => rfl),
    d_law := by
      obtain ⟨_, F⟩ := c1.def_ 9 (d := fnL[9]) rfl
      exact Dfn.of (n := "law") (st := s_law) (ps := p_law) X G (q := "law") rfl F (c1.fact 9 (f := .glo "law") rfl) (fun _ _ _ _ _ _ us hl => match us, hl with | [_], _ => rfl) }
end Gk02
namespace Gk02
open PySem L2 Dl
theorem F_isW (d : Dt) (lo hi : Int) (h : plain d = true) : F_is_within [d, .int lo, .int hi] = .ok (.bl (isW d lo hi)) := by
  cases d <;> first | exact Bool.noConfusion h | skip
  all_goals simp [F_is_within, g_is_within, oIsi, isW]
  rename_i i
  by_cases h1 : lo ≤ i <;> simp [h1]
theorem F_look (d : Dt) (h : plain d = true) : F_look_number [d] = if isW d 1 100000 then .ok .non else .ex "BadNumber" := by
  simp [F_look_number, g_look_number, F_isW _ _ _ h]
  cases isW d 1 100000 <;> simp
theorem F_cell (ns : List Int) (k : Int) (h : 0 ≤ k) : F__law_cell [.scr ns, .int k] = .ok (.int (at0 ns k)) := by
  simp [F__law_cell, g__law_cell]
  by_cases hk : k < (ns.length : Int)
  · simp [hk]
    rw [atI_int h hk]
    have hn : k.toNat < ns.length := by omega
    simp [hn, at0]
  · simp [hk, at0]
    have hn : ns.length ≤ k.toNat := by omega
    simp [hn]
theorem row_loop (ns : List Int) (at_ : Int) (ha : 0 ≤ at_) : ∀ (ts : List Int) (c : Int) (found : List Int), (∀ t ∈ ts, 0 ≤ t) → (∀ v ∈ found, 0 ≤ v ∧ v < 1000) → found.length + ts.length ≤ 1000 →
    ∃ (c' : Int) (found' : List Int), found'.length = found.length + ts.length ∧ (∀ v ∈ found', 0 ≤ v ∧ v < 1000) ∧
    goFor (gN 4) [4] b__law_row_1 (ts.map Dt.int) [.va (.scr ns), .va (.int at_), .va (.int c), .ow (.lst (found.map Dt.int)), .no] =
    .nx [.va (.scr ns), .va (.int at_), .va (.int c'), .ow (.lst (found'.map Dt.int)), .no]
  | [], c, found, _, hf, _ => ⟨c, found, rfl, hf, rfl⟩
  | t :: ts, c, found, ht, hf, hl => by
    have ht0 := ht t List.mem_cons_self
    have hm : 0 ≤ (at_ + 1 + t) % 20 := Int.emod_nonneg _ (by decide)
    have hl2 : found.length ≤ 16000000 := by have : (t :: ts).length = ts.length + 1 := rfl; omega
    by_cases hc : at0 ns at_ < 1000000000000000000
    · have hb : ∀ v ∈ found ++ [(c * 48271 + 131 * t + 7 + at0 ns ((at_ + 1 + t) % 20)) % 2147483647 / 11 % 1000], 0 ≤ v ∧ v < 1000 := by
        intro v hv
        rcases List.mem_append.mp hv with hv | hv
        · exact hf v hv
        · have := List.mem_singleton.mp hv; subst this
          exact ⟨Int.emod_nonneg _ (by decide), Int.emod_lt_of_pos _ (by decide)⟩
      obtain ⟨c', f', h1, h2, h3⟩ := row_loop ns at_ ha ts ((c * 48271 + 131 * t + 7 + at0 ns ((at_ + 1 + t) % 20)) % 2147483647) (found ++ [(c * 48271 + 131 * t + 7 + at0 ns ((at_ + 1 + t) % 20)) % 2147483647 / 11 % 1000]) (fun x hx => ht x (List.mem_cons_of_mem _ hx)) hb (by simp only [List.length_append, List.length_cons, List.length_nil] at hl ⊢; omega)
      refine ⟨c', f', by rw [h1]; simp only [List.length_append, List.length_cons, List.length_nil]; omega, h2, ?_⟩
      rw [← h3, List.map_cons]
      refine (goFor_step (ρ1 := [.va (.scr ns), .va (.int at_), .va (.int c), .ow (.lst (found.map Dt.int)), .va (.int t)]) (ρ2 := [.va (.scr ns), .va (.int at_), .va (.int ((c * 48271 + 131 * t + 7 + at0 ns ((at_ + 1 + t) % 20)) % 2147483647)), .ow (.lst ((found ++ [(c * 48271 + 131 * t + 7 + at0 ns ((at_ + 1 + t) % 20)) % 2147483647 / 11 % 1000]).map Dt.int)), .va (.int t)]) rfl ?_).trans rfl
      simp [b__law_row_1, F_cell _ _ ha, F_cell _ _ hm, hc, small, lim, hl2]
    · have hb : ∀ v ∈ found ++ [c % 1000], 0 ≤ v ∧ v < 1000 := by
        intro v hv
        rcases List.mem_append.mp hv with hv | hv
        · exact hf v hv
        · have := List.mem_singleton.mp hv; subst this
          exact ⟨Int.emod_nonneg _ (by decide), Int.emod_lt_of_pos _ (by decide)⟩
      obtain ⟨c', f', h1, h2, h3⟩ := row_loop ns at_ ha ts (c / 1000) (found ++ [c % 1000]) (fun x hx => ht x (List.mem_cons_of_mem _ hx)) hb (by simp only [List.length_append, List.length_cons, List.length_nil] at hl ⊢; omega)
      refine ⟨c', f', by rw [h1]; simp only [List.length_append, List.length_cons, List.length_nil]; omega, h2, ?_⟩
      rw [← h3, List.map_cons]
      refine (goFor_step (ρ1 := [.va (.scr ns), .va (.int at_), .va (.int c), .ow (.lst (found.map Dt.int)), .va (.int t)]) (ρ2 := [.va (.scr ns), .va (.int at_), .va (.int (c / 1000)), .ow (.lst ((found ++ [c % 1000]).map Dt.int)), .va (.int t)]) rfl ?_).trans rfl
      simp [b__law_row_1, F_cell _ _ ha, F_cell _ _ hm, hc, small, lim, hl2]

theorem rngD_map (n : Nat) : rngD 0 n = ((List.range n).map fun i => ((i : Nat) : Int)).map Dt.int := by
  unfold rngD
  rw [List.map_map]
  refine List.map_congr_left fun i _ => ?_
  simp
theorem F_row (ns : List Int) (a : Int) (ha : 0 ≤ a) : ∃ row : List Int, row.length = 60 ∧ (∀ v ∈ row, 0 ≤ v ∧ v < 1000) ∧ F__law_row [.scr ns, .int a] = .ok (.lst (row.map Dt.int)) := by
  obtain ⟨c', f', h1, h2, h3⟩ := row_loop ns a ha ((List.range 60).map fun i => ((i : Nat) : Int)) (at0 ns a) [] (fun t ht => by
    obtain ⟨i, _, rfl⟩ := List.mem_map.mp ht; omega) (fun v hv => absurd hv (by simp)) (by simp)
  refine ⟨f', by rw [h1]; simp, h2, ?_⟩
  rw [← rngD_map] at h3
  simp [F__law_row, g__law_row, F_cell _ _ ha, inR, lim]
  simp at h3
  rw [h3]
  simp
theorem F_asked {row : List Int} (hl : row.length = 60) (hb : ∀ v ∈ row, 0 ≤ v ∧ v < 1000) (a m : Int) (ha : 0 ≤ a) (hm : 1 ≤ m) : ∃ k, 1 ≤ k ∧ (k ≤ 30 ∨ k ≤ m) ∧ F__law_asked [.lst (row.map Dt.int), .int a, .int m] = .ok (.int k) := by
  have i1 : 0 ≤ a % 60 := Int.emod_nonneg _ (by decide)
  have i2 : a % 60 < row.length := by rw [hl]; exact Int.emod_lt_of_pos _ (by decide)
  have j1 : 0 ≤ (a + 1) % 60 := Int.emod_nonneg _ (by decide)
  have j2 : (a + 1) % 60 < row.length := by rw [hl]; exact Int.emod_lt_of_pos _ (by decide)
  have t1 : 0 ≤ at0 row ((a + 1) % 60) % 3 := Int.emod_nonneg _ (by decide)
  have t2 : at0 row ((a + 1) % 60) % 3 < 3 := Int.emod_lt_of_pos _ (by decide)
  have t3 : at0 row ((a + 1) % 60) % 3 = 0 ∨ at0 row ((a + 1) % 60) % 3 = 1 ∨ at0 row ((a + 1) % 60) % 3 = 2 := by omega
  have e0 : atI [Dt.int 6, Dt.int 30, Dt.int m] 0 = some (.int 6) := rfl
  have e1 : atI [Dt.int 6, Dt.int 30, Dt.int m] 1 = some (.int 30) := rfl
  have e2 : atI [Dt.int 6, Dt.int 30, Dt.int m] 2 = some (.int m) := rfl
  have m0 := (hb _ (at0_mem i1 i2)).1
  rcases t3 with q | q | q
  · refine ⟨1 + at0 row (a % 60) % 6, by have := Int.emod_nonneg (at0 row (a % 60)) (b := 6) (by decide); omega, .inl (by have := Int.emod_lt_of_pos (at0 row (a % 60)) (b := 6) (by decide); omega), ?_⟩
    simp [F__law_asked, g__law_asked, atI_map i1 i2, atI_map j1 j2, q, e0, lim]
  · refine ⟨1 + at0 row (a % 60) % 30, by have := Int.emod_nonneg (at0 row (a % 60)) (b := 30) (by decide); omega, .inl (by have := Int.emod_lt_of_pos (at0 row (a % 60)) (b := 30) (by decide); omega), ?_⟩
    simp [F__law_asked, g__law_asked, atI_map i1 i2, atI_map j1 j2, q, e1, lim]
  · refine ⟨1 + at0 row (a % 60) % m, by have := Int.emod_nonneg (at0 row (a % 60)) (b := m) (by omega); omega, .inr (by have := Int.emod_lt_of_pos (at0 row (a % 60)) (b := m) (by omega); omega), ?_⟩
    have : 0 < m := by omega
    simp [F__law_asked, g__law_asked, atI_map i1 i2, atI_map j1 j2, q, e2, lim, this]

def isWord (d : Dt) : Bool := match d with
  | .str x => ("cut" : Str) == x || (("near" : Str) == x || (("up" : Str) == x || false))
  | _ => false
def shareF (c n u : Int) (w : Str) : Int := if w = "cut" then u * c / n else if w = "up" then -(-(u * c) / n) else (2 * u * c + n) / (2 * n)
theorem F_up (a b : Int) (h : 0 < b) (h2 : b < 1073741824) : F_up_over [.int a, .int b] = .ok (.int (-(-a / b))) := by
  simp [F_up_over, g_up_over, h, h2]
theorem eqStr (x y : Str) : eqD (.str x) (.str y) = some (decide (x = y)) := by
  simp [eqD, scal]
theorem F_shareOf (c n u : Int) (w : Str) (h1 : 0 < n) (h2 : n ≤ 100000) (h3 : 2 ≤ u) (h4 : u ≤ 100) (h5 : 0 ≤ c) (h6 : c ≤ n) : F_share_of [.int c, .int n, .int u, .str w] = .ok (.int (shareF c n u w)) := by
  have a1 : n < 1073741824 := by omega
  have a2 : 2 * n < 1073741824 := by omega
  have a3 : 0 < 2 * n := by omega
  have s1 : small u = true := small_of (by omega) (by omega)
  have s2 : small (2 * u) = true := small_of (by omega) (by omega)
  have s3 : small 2 = true := by decide
  by_cases q1 : w = "cut"
  · simp [F_share_of, g_share_of, oEq, eqStr, q1, shareF, h1, a1, s1]
  · by_cases q2 : w = "up"
    · simp [F_share_of, g_share_of, oEq, eqStr, q2, shareF, h1, a1, s1, F_up _ _ h1 a1]
    · simp [F_share_of, g_share_of, oEq, eqStr, q1, q2, shareF, h1, a1, a2, a3, s1, s2, s3]
theorem in_words (x : Str) : inD (.str x) (.tup [.str "cut", .str "near", .str "up"]) = some (isWord (.str x)) := rfl
theorem F_share_eq (a n u w : Dt) (ha : plain a = true) (hn : plain n = true) (hu : plain u = true) (hw : plain w = true) : F_share [a, n, u, w] = match n with
    | .int N => if isW (.int N) 1 100000 then (match a with
      | .int A => if isW (.int A) 0 N then (match u, w with
        | .int U, .str x => if isW (.int U) 2 100 && isWord (.str x) then .ok (.int (shareF A N U x)) else .ex "BadShowing"
        | _, _ => .ex "BadShowing") else .ex "BadCounts"
      | _ => .ex "BadCounts") else .ex "BadNumber"
    | _ => .ex "BadNumber" := by
  cases n with
  | int N =>
    by_cases q : isW (.int N) 1 100000 = true
    · cases a with
      | int A =>
        by_cases q2 : isW (.int A) 0 N = true
        · simp only [q, q2, if_true]
          have b1 : 1 ≤ N ∧ N ≤ 100000 := by simpa [isW] using q
          have b2 : 0 ≤ A ∧ A ≤ N := by simpa [isW] using q2
          by_cases q3 : isW u 2 100 = true
          · cases u with
            | int U =>
              have b3 : 2 ≤ U ∧ U ≤ 100 := by simpa [isW] using q3
              cases w with
              | str x =>
                by_cases q4 : isWord (.str x) = true
                · simp [F_share, g_share, F_look _ hn, F_isW _ _ _ ha, F_isW _ _ _ hu, q, q2, q3, oIsi_str hw, isStr, in_words x, q4, F_shareOf A N U x (by omega) (by omega) b3.1 b3.2 b2.1 b2.2]
                · simp [F_share, g_share, F_look _ hn, F_isW _ _ _ ha, F_isW _ _ _ hu, q, q2, q3, oIsi_str hw, isStr, in_words x, q4]
              | dct _ => cases hw
              | obj _ _ => cases hw
              | scr _ => cases hw
              | _ => simp [F_share, g_share, F_look _ hn, F_isW _ _ _ ha, F_isW _ _ _ hu, q, q2, q3, oIsi_str hw, isStr]
            | _ => cases q3
          · simp [F_share, g_share, F_look _ hn, F_isW _ _ _ ha, F_isW _ _ _ hu, q, q2, q3]
            cases u <;> cases w <;> simp [q3]
        · simp [F_share, g_share, F_look _ hn, F_isW _ _ _ ha, q, q2]
      | dct _ => cases ha
      | obj _ _ => cases ha
      | scr _ => cases ha
      | _ => simp [F_share, g_share, F_look _ hn, F_isW _ _ _ ha, q]
    · simp [F_share, g_share, F_look _ hn, q]
  | dct _ => cases hn
  | obj _ _ => cases hn
  | scr _ => cases hn
  | _ => simp [F_share, g_share, F_look _ hn]
theorem disp_n (ρ : List Sl) : dispX tabN tabC [("BadNumber", fun n => cond (subX n "ShareError" && !subX n "BadPoll") "number" "other"), ("BadCounts", fun n => cond (subX n "ShareError" && !subX n "BadPoll") "counts" "other"), ("BadShowing", fun _ => "showing")] "BadNumber" ρ = .rt (.str "number") := by rfl
theorem disp_c (ρ : List Sl) : dispX tabN tabC [("BadNumber", fun n => cond (subX n "ShareError" && !subX n "BadPoll") "number" "other"), ("BadCounts", fun n => cond (subX n "ShareError" && !subX n "BadPoll") "counts" "other"), ("BadShowing", fun _ => "showing")] "BadCounts" ρ = .rt (.str "counts") := by rfl
theorem disp_s (ρ : List Sl) : dispX tabN tabC [("BadNumber", fun n => cond (subX n "ShareError" && !subX n "BadPoll") "number" "other"), ("BadCounts", fun n => cond (subX n "ShareError" && !subX n "BadPoll") "counts" "other"), ("BadShowing", fun _ => "showing")] "BadShowing" ρ = .rt (.str "showing") := by rfl
theorem F_word (a n u w : Dt) : F__law_share_word [a, n, u, w] = match F_share [a, n, u, w] with
    | .ok d => .ok d
    | .ex m => (match dispX tabN tabC [("BadNumber", fun n => cond (subX n "ShareError" && !subX n "BadPoll") "number" "other"), ("BadCounts", fun n => cond (subX n "ShareError" && !subX n "BadPoll") "counts" "other"), ("BadShowing", fun _ => "showing")] m [.va a, .va n, .va u, .va w, .no] with
      | .rt d => .ok d
      | .nx _ => .ok .non
      | .ex n _ => .ex n
      | _ => .st)
    | .st => .st := by
  cases q : F_share [a, n, u, w] with
  | st => simp [F__law_share_word, g__law_share_word, q]
  | ok d => simp [F__law_share_word, g__law_share_word, q]
  | ex m =>
    simp only [F__law_share_word, g__law_share_word, runF, List.length_cons, List.length_nil, if_true, List.map_cons, List.map_nil, List.cons_append, List.nil_append, List.replicate, sTryR, sRet, rob, cCall, aCons, aNil, cV, List.getElem?_cons_zero, List.getElem?_cons_succ, Rs.bind, q]
    all_goals rfl
theorem isW_of {i lo hi : Int} (h1 : lo ≤ i) (h2 : i ≤ hi) : isW (.int i) lo hi = true := by simp [isW, h1, h2]
theorem mul_le' {a b c : Int} (h : a ≤ b) (hc : 0 ≤ c) : a * c ≤ b * c := Int.mul_le_mul_of_nonneg_right h hc
/-- the shares' own bounds -/
theorem cut_ok (c n u : Int) (h : 0 < n) : u * c / n * n ≤ u * c ∧ u * c < (u * c / n + 1) * n := by
  have h1 := Int.emod_nonneg (u * c) (b := n) (by omega)
  have h2 := Int.emod_lt_of_pos (u * c) h
  have h3 := Int.mul_ediv_add_emod (u * c) n
  rw [Int.mul_comm n] at h3
  rw [Int.add_mul, Int.one_mul]
  omega
theorem near_ok (c n u : Int) (h : 0 < n) : (2 * ((2 * u * c + n) / (2 * n)) - 1) * n ≤ 2 * u * c ∧ 2 * u * c < (2 * ((2 * u * c + n) / (2 * n)) + 1) * n := by
  have h1 := Int.emod_nonneg (2 * u * c + n) (b := 2 * n) (by omega)
  have h2 := Int.emod_lt_of_pos (2 * u * c + n) (b := 2 * n) (by omega)
  have h3 := Int.mul_ediv_add_emod (2 * u * c + n) (2 * n)
  generalize (2 * u * c + n) / (2 * n) = s at h3 ⊢
  have e1 : (2 * s - 1) * n = 2 * n * s - n := by rw [Int.sub_mul, Int.one_mul, Int.mul_right_comm]
  have e2 : (2 * s + 1) * n = 2 * n * s + n := by rw [Int.add_mul, Int.one_mul, Int.mul_right_comm]
  rw [e1, e2]
  omega
theorem up_ok (c n u : Int) (h : 0 < n) : (-(-(u * c) / n) - 1) * n < u * c ∧ u * c ≤ -(-(u * c) / n) * n := by
  have h1 := Int.emod_nonneg (-(u * c)) (b := n) (by omega)
  have h2 := Int.emod_lt_of_pos (-(u * c)) h
  have h3 := Int.mul_ediv_add_emod (-(u * c)) n
  generalize -(u * c) / n = s at h3 ⊢
  have e1 : (-s - 1) * n = -(n * s) - n := by rw [Int.sub_mul, Int.one_mul, Int.neg_mul, Int.mul_comm s n]
  have e2 : -s * n = -(n * s) := by rw [Int.neg_mul, Int.mul_comm s n]
  rw [e1, e2]
  omega
theorem word_num (a n u w : Dt) (ha : plain a = true) (hn : plain n = true) (hu : plain u = true) (hw : plain w = true) (h : isW n 1 100000 = false) : F__law_share_word [a, n, u, w] = .ok (.str "number") := by
  have q : F_share [a, n, u, w] = .ex "BadNumber" := by
    rw [F_share_eq a n u w ha hn hu hw]
    cases n with
    | int N => simp [h]
    | _ => rfl
  rw [F_word, q]
  dsimp only
  rw [disp_n]
theorem word_cnt (a u w : Dt) (N : Int) (ha : plain a = true) (hu : plain u = true) (hw : plain w = true) (hn : isW (.int N) 1 100000 = true) (h : isW a 0 N = false) : F__law_share_word [a, .int N, u, w] = .ok (.str "counts") := by
  have q : F_share [a, .int N, u, w] = .ex "BadCounts" := by
    rw [F_share_eq a (.int N) u w ha rfl hu hw]
    cases a with
    | int A => simp [hn, h]
    | _ => simp [hn]
  rw [F_word, q]
  dsimp only
  rw [disp_c]
theorem word_shw (u w : Dt) (A N : Int) (hu : plain u = true) (hw : plain w = true) (hn : isW (.int N) 1 100000 = true) (ha : isW (.int A) 0 N = true) (h : (isW u 2 100 && isWord w) = false) : F__law_share_word [.int A, .int N, u, w] = .ok (.str "showing") := by
  have q : F_share [.int A, .int N, u, w] = .ex "BadShowing" := by
    rw [F_share_eq (.int A) (.int N) u w rfl rfl hu hw]
    cases u with
    | int U =>
      cases w with
      | str x => simp [hn, ha, h]
      | _ => simp [hn, ha]
    | _ => cases w <;> simp [hn, ha]
  rw [F_word, q]
  dsimp only
  rw [disp_s]
theorem share_ok (A N U : Int) (x : Str) (hn : isW (.int N) 1 100000 = true) (ha : isW (.int A) 0 N = true) (hu : isW (.int U) 2 100 = true) (hx : isWord (.str x) = true) : F_share [.int A, .int N, .int U, .str x] = .ok (.int (shareF A N U x)) := by
  rw [F_share_eq (.int A) (.int N) (.int U) (.str x) rfl rfl rfl rfl]
  simp [hn, ha, hu, hx]

theorem odd5 (x : Int) : ∃ d, atI [Dt.non, .int 0, .int 100001, .bl true, .int (-1)] (x % 5) = some d ∧ plain d = true ∧ isW d 1 100000 = false := by
  have h1 := Int.emod_nonneg x (b := 5) (by decide)
  have h2 := Int.emod_lt_of_pos x (b := 5) (by decide)
  have : x % 5 = 0 ∨ x % 5 = 1 ∨ x % 5 = 2 ∨ x % 5 = 3 ∨ x % 5 = 4 := by omega
  rcases this with q | q | q | q | q <;> rw [q]
  · exact ⟨_, rfl, rfl, rfl⟩
  · exact ⟨_, rfl, rfl, rfl⟩
  · exact ⟨_, rfl, rfl, rfl⟩
  · exact ⟨_, rfl, rfl, rfl⟩
  · exact ⟨_, rfl, rfl, rfl⟩
theorem odd4c (x N : Int) (hN : 0 ≤ N) : ∃ d, atI [Dt.non, .int (-1), .int (N + 1), .bl true] (x % 4) = some d ∧ plain d = true ∧ isW d 0 N = false := by
  have h1 := Int.emod_nonneg x (b := 4) (by decide)
  have h2 := Int.emod_lt_of_pos x (b := 4) (by decide)
  have : x % 4 = 0 ∨ x % 4 = 1 ∨ x % 4 = 2 ∨ x % 4 = 3 := by omega
  rcases this with q | q | q | q <;> rw [q]
  · exact ⟨_, rfl, rfl, rfl⟩
  · exact ⟨_, rfl, rfl, rfl⟩
  · exact ⟨_, rfl, rfl, by simp [isW]; omega⟩
  · exact ⟨_, rfl, rfl, rfl⟩
theorem odd4u (x : Int) : ∃ d, atI [Dt.non, .int 1, .int 101, .bl true] (x % 4) = some d ∧ plain d = true ∧ isW d 2 100 = false := by
  have h1 := Int.emod_nonneg x (b := 4) (by decide)
  have h2 := Int.emod_lt_of_pos x (b := 4) (by decide)
  have : x % 4 = 0 ∨ x % 4 = 1 ∨ x % 4 = 2 ∨ x % 4 = 3 := by omega
  rcases this with q | q | q | q <;> rw [q]
  · exact ⟨_, rfl, rfl, rfl⟩
  · exact ⟨_, rfl, rfl, rfl⟩
  · exact ⟨_, rfl, rfl, rfl⟩
  · exact ⟨_, rfl, rfl, rfl⟩
theorem odd4w (x : Int) : ∃ d, atI [Dt.non, .str "", .str "down", .int 1] (x % 4) = some d ∧ plain d = true ∧ isWord d = false := by
  have h1 := Int.emod_nonneg x (b := 4) (by decide)
  have h2 := Int.emod_lt_of_pos x (b := 4) (by decide)
  have : x % 4 = 0 ∨ x % 4 = 1 ∨ x % 4 = 2 ∨ x % 4 = 3 := by omega
  rcases this with q | q | q | q <;> rw [q]
  · exact ⟨_, rfl, rfl, rfl⟩
  · exact ⟨_, rfl, rfl, by decide +kernel⟩
  · exact ⟨_, rfl, rfl, by decide +kernel⟩
  · exact ⟨_, rfl, rfl, rfl⟩
theorem word_ok (A N U : Int) (x : Str) (hn : isW (.int N) 1 100000 = true) (ha : isW (.int A) 0 N = true) (hu : isW (.int U) 2 100 = true) (hx : isWord (.str x) = true) : F__law_share_word [.int A, .int N, .int U, .str x] = .ok (.int (shareF A N U x)) := by
  rw [F_word, share_ok A N U x hn ha hu hx]
theorem law_true (ns : List Int) (_ : ns.length ≤ 63) : F_law [.scr ns] = .ok (.bl true) := by
  obtain ⟨row, hl, hb, hr⟩ := F_row ns 2 (by decide)
  obtain ⟨N, n1, n2, hN⟩ := F_asked hl hb 0 100000 (by decide) (by decide)
  have nN : isW (.int N) 1 100000 = true := isW_of n1 (by omega)
  have hat : ∀ k : Int, 0 ≤ k → k < 60 → atI (row.map Dt.int) k = some (.int (at0 row k)) := fun k h1 h2 => atI_map h1 (by rw [hl]; exact h2)
  obtain ⟨d4, e4, p4, w4⟩ := odd5 (at0 row 4)
  obtain ⟨d5, e5, p5, w5⟩ := odd4c (at0 row 5) N (by omega)
  obtain ⟨d6, e6, p6, w6⟩ := odd4u (at0 row 6)
  obtain ⟨d7, e7, p7, w7⟩ := odd4w (at0 row 7)
  have c1 := Int.emod_nonneg (at0 row 2) (b := N + 1) (by omega)
  have c2 := Int.emod_lt_of_pos (at0 row 2) (b := N + 1) (by omega)
  have u1 := Int.emod_nonneg (at0 row 3) (b := 99) (by decide)
  have u2 := Int.emod_lt_of_pos (at0 row 3) (b := 99) (by decide)
  have hp : 0 < N + 1 := by omega
  generalize hC : at0 row 2 % (N + 1) = C at c1 c2
  generalize hU : at0 row 3 % 99 = V at u1 u2
  have wC : isW (.int C) 0 N = true := isW_of c1 (by omega)
  have wU : isW (.int (2 + V)) 2 100 = true := isW_of (by omega) (by omega)
  have k1 := cut_ok C N (2 + V) (by omega)
  have k2 := near_ok C N (2 + V) (by omega)
  have k3 := up_ok C N (2 + V) (by omega)
  have x1 : isWord (.str "cut") = true := by decide +kernel
  have x2 : isWord (.str "near") = true := by decide +kernel
  have x3 : isWord (.str "up") = true := by decide +kernel
  have sN : small N = true := small_of (by omega) (by omega)
  have sU : small (2 + V) = true := small_of (by omega) (by omega)
  have s2 : small 2 = true := by decide
  have sC : small C = true := small_of (by omega) (by omega)
  have g1 := share_ok C N (2 + V) "cut" nN wC wU x1
  have g2 := share_ok C N (2 + V) "near" nN wC wU x2
  have g3 := share_ok C N (2 + V) "up" nN wC wU x3
  have f1 := word_num .non d4 .non .non rfl p4 rfl rfl w4
  have f2 := word_ok 0 100000 2 "cut" (by decide) (by decide) (by decide) x1
  have f3 := word_cnt d5 .non .non N p5 rfl rfl nN w5
  have f4 := word_shw d6 (.str "cut") C N p6 rfl nN wC (by rw [w6]; rfl)
  have f5 := word_shw (.int (2 + V)) d7 C N rfl p7 nN wC (by rw [w7, Bool.and_false])
  have z0 : shareF 0 100000 2 "cut" = 0 := by simp [shareF]
  have t0 : ∀ a b c : Dt, atI [a, b, c] 0 = some a := fun _ _ _ => rfl
  have t1 : ∀ a b c : Dt, atI [a, b, c] 1 = some b := fun _ _ _ => rfl
  have t2 : ∀ a b c : Dt, atI [a, b, c] 2 = some c := fun _ _ _ => rfl
  have es : ∀ x : Str, eqD (.str x) (.str x) = some true := fun x => by rw [eqStr]; simp
  have ei : eqD (.int 0) (.int 0) = some true := by simp [eqD, scal]
  have b1 : shareF C N (2 + V) "cut" = (2 + V) * C / N := by simp [shareF]
  have b2 : shareF C N (2 + V) "near" = (2 * (2 + V) * C + N) / (2 * N) := by simp [shareF]
  have b3 : shareF C N (2 + V) "up" = -(-((2 + V) * C) / N) := by simp [shareF]
  rw [← b1] at k1
  rw [← b2] at k2
  rw [← b3] at k3
  simp [F_law, g_law, hr, hN, hat, hp, hC, hU, goLc, g1, g2, g3, lim, t0, t1, t2, sN, sU, s2, sC, k1, k2, k3, e4, e5, e6, e7, f1, f2, f3, f4, f5, oNe, oEq, es, ei, z0]
end Gk02
open PySem PySem.W PySem.Calls PyProof.Rows
theorem PySem.Challenge.cw_shownshares_k02_shares_holds : PySem.Challenge.rw_shownshares_k02_shares.Holds := by
  w_on; o_law
  refine HandSHeadRun.head_any (r := OpenLaw.row PySem.Challenge.rw_shownshares_k02_shares) (q := view (OpenLaw.row PySem.Challenge.rw_shownshares_k02_shares).prog [21]) (H := Gk02.hk) (ob := Gk02.ob) (M := 2000) (loose := Gk02.loose) (d := HandSHeadRun.topDef (OpenLaw.row PySem.Challenge.rw_shownshares_k02_shares).prog 21) (kwd := [])
    Gk02.ob_eq (by kernel_rfl) (fun s => by kernel_rfl) Gk02.run (by kernel_rfl) (by kernel_rfl) (by kernel_rfl) (by rfl) (by decide +kernel) (by decide +kernel) ⟨rfl, rfl, rfl, rfl, rfl, by decide +kernel⟩ ?hw ?hc
  case hw => w_witness2
  case hc =>
    refine Dl.walk_law (l := PySem.Challenge.rw_shownshares_k02_shares) (n := "law") (x := "_law_script") (st := Gk02.s_law) (k := 5) (F := Gk02.F_law) rfl (by kernel_rfl) ⟨rfl, by decide, by decide⟩ (by kernel_rfl) ?F Gk02.law_true
    rintro w mg h ⟨K, KX, c⟩ G
    have T := Gk02.facts KX G c
    exact ⟨K, KX, T.d_law, fun base => Gk02.ok_law T⟩
