import PyProof.Rows.All
import Wide.All
import OpenK.AllK
import Wide.FinOn
import HandS.ForMost
import HandS.Exc
import HandS.TryOnly
import HandS.ExcOwn
import HandS.WordsExc
import HandS.TupAny
import HandS.Deep
import HandS.IsInst
import HandS.Zip
import HandS.Wide
import KE.SortData
import KE.LtData
import KE.DataCmp
import HandS.TupLe
import PyProof.WalkInts
import PyProof.PureStr
import PyProof.TupleOfStr
import HandS.Conv
import HandS.Style
import HandS.MapJoin
import HandS.SortInts
import HandS.More
import PyProof.TupleOfSeq
import KE.KDictList
import HandS.TupSets
import HandS.SetKeys
import KE.KeyNested
import HandS.Small
import KE.KDictPairs
import PyProof.SeqIndex
import PyProof.P3In
import HandS.Words
import HandS.EndBits
import PySem.Challenge.RW_onefolk_k51_grounds_written
set_option Elab.async false
set_option linter.all false
set_option maxRecDepth 100000
set_option maxHeartbeats 4000000
/-! The evaluator, part A: data in the heap, what may grow. -/
namespace Ev
open PySem L2

abbrev D := PyData

/-- a key of a dict as data -/
def kD : Key → D
  | .inl i => .int i
  | .inr x => .str x

/-- a tuple whose object has no dict of its own -/
def SqN (F : Hp) (a : Addr) (xs : List V) : Prop := ∃ ob : Obj, F a = some (.frz ob (.tup xs)) ∧ ob.dict = none
theorem SqN.t {K : PySem.W.Frag} {F : Hp} {a : Addr} {xs : List V} : SqN F a xs → SqT K F a xs := fun ⟨ob, h, _⟩ => .inl (.inr ⟨ob, h⟩)
theorem SqN.of {F : Hp} {a : Addr} {xs : List V} {ob : Obj} (h : F a = some (.frz ob (.tup xs))) (e : ob.dict = none) : SqN F a xs := ⟨ob, h, e⟩
theorem seqN_same {F F' : Hp} {a : Addr} {xs : List V} (e : Same F F') : SqN F a xs → SqN F' a xs := fun ⟨ob, h, d⟩ => ⟨ob, e _ _ h, d⟩
mutual
/-- the value v stands for the data d, in the part F of the abstract heap -/
inductive Dn (K : PySem.W.Frag) (F : Hp) : V → D → Prop
  | non : Dn K F .non .none
  | bl (b : Bool) : Dn K F (.bl b) (.bool b)
  | int (i : Int) : Dn K F (.int i) (.int i)
  | str (x : Str) : Dn K F (.str x) (.str x)
  | lst {a : Addr} {xs : List V} {ds : List D} : SqL K F a xs → DnL K F xs ds → Dn K F (.ref a) (.list ds)
  | tup {a : Addr} {xs : List V} {ds : List D} : SqN F a xs → DnL K F xs ds → Dn K F (.ref a) (.tuple ds)
  | dic {a : Addr} {ks : List (Key × V)} {es : List (D × D)} : F a = some (.dK ks) → DnK K F ks es → Dn K F (.ref a) (.dict es)
inductive DnL (K : PySem.W.Frag) (F : Hp) : List V → List D → Prop
  | nil : DnL K F [] []
  | cons {v : V} {vs : List V} {d : D} {ds : List D} : Dn K F v d → DnL K F vs ds → DnL K F (v :: vs) (d :: ds)
inductive DnK (K : PySem.W.Frag) (F : Hp) : List (Key × V) → List (D × D) → Prop
  | nil : DnK K F [] []
  | cons {k : Key} {v : V} {ks : List (Key × V)} {d : D} {es : List (D × D)} : Dn K F v d → DnK K F ks es → DnK K F ((k, v) :: ks) ((kD k, d) :: es)
end

section
variable {K : PySem.W.Frag} {F F' H : Hp}
theorem seqT_same {a : Addr} {xs : List V} (e : Same F F') (h : SqT K F a xs) : SqT K F' a xs := by
  rcases h with (h | ⟨o, h⟩) | h
  · exact .inl (.inl (e _ _ h))
  · exact .inl (.inr ⟨o, e _ _ h⟩)
  · exact .inr h
mutual
theorem Dn.mono (e : Same F F') : ∀ (d : D) (v : V), Dn K F v d → Dn K F' v d
  | .none, _, h => by cases h; exact .non
  | .bool b, _, h => by cases h; exact .bl _
  | .int i, _, h => by cases h; exact .int _
  | .str x, _, h => by cases h; exact .str _
  | .list ds, _, h => by
    cases h with
    | lst h1 h2 => exact .lst (e.seq h1) (DnL.mono e ds _ h2)
  | .tuple ds, _, h => by
    cases h with
    | tup h1 h2 => exact .tup (seqN_same e h1) (DnL.mono e ds _ h2)
  | .dict es, _, h => by
    cases h with
    | dic h1 h2 => exact .dic (e _ _ h1) (DnK.mono e es _ h2)
theorem DnL.mono (e : Same F F') : ∀ (ds : List D) (vs : List V), DnL K F vs ds → DnL K F' vs ds
  | [], _, h => by cases h; exact .nil
  | d :: ds, _, h => by
    cases h with
    | cons h1 h2 => exact .cons (Dn.mono e d _ h1) (DnL.mono e ds _ h2)
theorem DnK.mono (e : Same F F') : ∀ (es : List (D × D)) (ks : List (Key × V)), DnK K F ks es → DnK K F' ks es
  | [], _, h => by cases h; exact .nil
  | (a, d) :: es, _, h => by
    cases h with
    | cons h1 h2 => exact .cons (Dn.mono e d _ h1) (DnK.mono e es _ h2)
end
mutual
theorem Dn.dp : ∀ (d : D) (v : V), d.canLay0 = true → Dn K F v d → Dp K F v d
  | .none, _, _, h => by cases h; exact .non
  | .bool b, _, _, h => by cases h; exact .bl _
  | .int i, _, _, h => by cases h; exact .int _
  | .str x, _, _, h => by cases h; exact .str _
  | .list ds, _, c, h => by
    cases h with
    | lst h1 h2 => exact .lst h1 (DnL.dp ds _ (by simpa [PyData.canLay0] using c) h2)
  | .tuple ds, _, c, h => by
    cases h with
    | tup h1 h2 => exact .tup h1.t (DnL.dp ds _ (by simpa [PyData.canLay0] using c) h2)
  | .dict es, _, c, h => by simp [PyData.canLay0] at c
theorem DnL.dp : ∀ (ds : List D) (vs : List V), PyData.canLayAll0 ds = true → DnL K F vs ds → DpAll K F vs ds
  | [], _, _, h => by cases h; exact .nil
  | d :: ds, _, c, h => by
    have c' : d.canLay0 = true ∧ PyData.canLayAll0 ds = true := by simpa [PyData.canLayAll0] using c
    cases h with
    | cons h1 h2 => exact .cons (Dn.dp d _ c'.1 h1) (DnL.dp ds _ c'.2 h2)
end
theorem DnL.length : ∀ {ds : List D} {vs : List V}, DnL K F vs ds → vs.length = ds.length
  | [], _, h => by cases h; rfl
  | d :: ds, _, h => by
    cases h with
    | cons h1 h2 => simp [DnL.length h2]
theorem DnL.get : ∀ {ds : List D} {vs : List V} {i : Nat} {d : D}, DnL K F vs ds → ds[i]? = some d → ∃ v, vs[i]? = some v ∧ Dn K F v d
  | [], _, _, _, h, e => by simp at e
  | d :: ds, _, 0, _, h, e => by
    cases h with
    | cons h1 h2 => simp at e; subst e; exact ⟨_, rfl, h1⟩
  | d :: ds, _, i + 1, _, h, e => by
    cases h with
    | cons h1 h2 =>
      obtain ⟨v, e1, e2⟩ := DnL.get (i := i) h2 (by simpa using e)
      exact ⟨v, by simpa using e1, e2⟩
theorem DnL.get' : ∀ {ds : List D} {vs : List V} {i : Nat} {v : V}, DnL K F vs ds → vs[i]? = some v → ∃ d, ds[i]? = some d ∧ Dn K F v d
  | [], _, _, _, h, e => by cases h; simp at e
  | d :: ds, _, 0, _, h, e => by
    cases h with
    | cons h1 h2 => simp at e; subst e; exact ⟨_, rfl, h1⟩
  | d :: ds, _, i + 1, _, h, e => by
    cases h with
    | cons h1 h2 =>
      obtain ⟨v, e1, e2⟩ := DnL.get' (i := i) h2 (by simpa using e)
      exact ⟨v, by simpa using e1, e2⟩
theorem DnL.append : ∀ {ds es : List D} {vs us : List V}, DnL K F vs ds → DnL K F us es → DnL K F (vs ++ us) (ds ++ es)
  | [], _, _, _, h, h' => by cases h; exact h'
  | d :: ds, _, _, _, h, h' => by
    cases h with
    | cons h1 h2 => exact .cons h1 (DnL.append h2 h')
theorem DnL.one {v : V} {d : D} (h : Dn K F v d) : DnL K F [v] [d] := .cons h .nil
theorem DnL.take : ∀ {ds : List D} {vs : List V} (n : Nat), DnL K F vs ds → DnL K F (vs.take n) (ds.take n)
  | _, _, 0, _ => by simp; exact .nil
  | [], _, _ + 1, h => by cases h; exact .nil
  | d :: ds, _, n + 1, h => by
    cases h with
    | cons h1 h2 => exact .cons h1 (DnL.take n h2)
theorem DnL.drop : ∀ {ds : List D} {vs : List V} (n : Nat), DnL K F vs ds → DnL K F (vs.drop n) (ds.drop n)
  | _, _, 0, h => h
  | [], _, _ + 1, h => by cases h; exact .nil
  | d :: ds, _, n + 1, h => by
    cases h with
    | cons h1 h2 => exact DnL.drop n h2
theorem DnL.set : ∀ {ds : List D} {vs : List V} (n : Nat) {v : V} {d : D}, DnL K F vs ds → Dn K F v d → DnL K F (vs.set n v) (ds.set n d)
  | [], _, _, _, _, h, _ => by cases h; exact .nil
  | _ :: _, _, 0, _, _, h, q => by
    cases h with
    | cons h1 h2 => exact .cons q h2
  | d :: ds, _, n + 1, _, _, h, q => by
    cases h with
    | cons h1 h2 => exact .cons h1 (DnL.set n h2 q)
theorem DnL.reverse : ∀ {ds : List D} {vs : List V}, DnL K F vs ds → DnL K F vs.reverse ds.reverse
  | [], _, h => by cases h; exact .nil
  | d :: ds, _, h => by
    cases h with
    | cons h1 h2 => rw [List.reverse_cons, List.reverse_cons]; exact (DnL.reverse h2).append (.one h1)
theorem DnL.dropLast : ∀ {ds : List D} {vs : List V}, DnL K F vs ds → DnL K F vs.dropLast ds.dropLast
  | [], _, h => by cases h; exact .nil
  | [d], _, h => by
    cases h with
    | cons h1 h2 => cases h2; exact .nil
  | d :: e :: ds, _, h => by
    cases h with
    | cons h1 h2 =>
      cases h2 with
      | cons h3 h4 => exact .cons h1 (DnL.dropLast (.cons h3 h4))
theorem DnL.eraseIdx : ∀ {ds : List D} {vs : List V} (n : Nat), DnL K F vs ds → DnL K F (vs.eraseIdx n) (ds.eraseIdx n)
  | [], _, _, h => by cases h; exact .nil
  | _ :: _, _, 0, h => by
    cases h with
    | cons h1 h2 => exact h2
  | d :: ds, _, n + 1, h => by
    cases h with
    | cons h1 h2 => exact .cons h1 (DnL.eraseIdx n h2)
theorem DnL.rep {ds : List D} {vs : List V} (h : DnL K F vs ds) : ∀ n : Nat, DnL K F (List.replicate n vs).flatten (List.replicate n ds).flatten
  | 0 => .nil
  | n + 1 => by rw [List.replicate_succ, List.replicate_succ, List.flatten_cons, List.flatten_cons]; exact h.append (DnL.rep h n)

/-- a value that is read at a place where nothing is kept of it: its top may stand outside F -/
inductive Br (K : PySem.W.Frag) (F H : Hp) : V → D → Prop
  | dn {v : V} {d : D} : Dn K F v d → Br K F H v d
  | lst {a : Addr} {xs : List V} {ds : List D} : H a = some (.lst xs) → DnL K F xs ds → Br K F H (.ref a) (.list ds)
  | dic {a : Addr} {ks : List (Key × V)} {es : List (D × D)} : H a = some (.dK ks) → DnK K F ks es → Br K F H (.ref a) (.dict es)

theorem Br.list {v : V} {ds : List D} (e : Same F H) (h : Br K F H v (.list ds)) : ∃ a xs, v = .ref a ∧ SqL K H a xs ∧ DnL K F xs ds := by
  cases h with
  | dn h =>
    cases h with
    | lst h1 h2 => exact ⟨_, _, rfl, e.seq h1, h2⟩
  | lst h1 h2 => exact ⟨_, _, rfl, SqL.of h1, h2⟩
theorem Br.tuple {v : V} {ds : List D} (h : Br K F H v (.tuple ds)) : ∃ a xs, v = .ref a ∧ SqT K F a xs ∧ DnL K F xs ds := by
  cases h with
  | dn h =>
    cases h with
    | tup h1 h2 => exact ⟨_, _, rfl, h1.t, h2⟩
theorem Br.tupN {v : V} {ds : List D} (h : Br K F H v (.tuple ds)) : ∃ a xs, v = .ref a ∧ SqN F a xs ∧ DnL K F xs ds := by
  cases h with
  | dn h =>
    cases h with
    | tup h1 h2 => exact ⟨_, _, rfl, h1, h2⟩
theorem Br.dict {v : V} {es : List (D × D)} (e : Same F H) (h : Br K F H v (.dict es)) : ∃ a ks, v = .ref a ∧ H a = some (.dK ks) ∧ DnK K F ks es := by
  cases h with
  | dn h =>
    cases h with
    | dic h1 h2 => exact ⟨_, _, rfl, e _ _ h1, h2⟩
  | dic h1 h2 => exact ⟨_, _, rfl, h1, h2⟩
theorem Br.full {v : V} {d : D} (e : Same F H) (h : Br K F H v d) : Dn K H v d := by
  cases h with
  | dn h => exact h.mono e
  | lst h1 h2 => exact .lst (SqL.of h1) (h2.mono e)
  | dic h1 h2 => exact .dic h1 (h2.mono e)

/-- F, H grow to F', H': what stood stands, what is new in F' was free in H -/
structure Gr (F H F' H' : Hp) : Prop where
  hh : Same H H'
  ff : Same F F'
  fh : Same F' H'
  nw : ∀ a o, F' a = some o → F a = some o ∨ H a = none
theorem Gr.refl (e : Same F H) : Gr F H F H := ⟨Same.refl _, Same.refl _, e, fun _ _ h => .inl h⟩
theorem Gr.trans {F1 H1 F2 H2 F3 H3 : Hp} (a : Gr F1 H1 F2 H2) (b : Gr F2 H2 F3 H3) : Gr F1 H1 F3 H3 :=
  ⟨a.hh.trans b.hh, a.ff.trans b.ff, b.fh, fun x o h => by
    rcases b.nw x o h with h | h
    · exact a.nw x o h
    · exact .inr (a.hh.free h)⟩
theorem Gr.sf {F H F' H' : Hp} (a : Gr F H F' H') : Same F H → Same F' H' := fun _ => a.fh
/-- a new object that stands in F too -/
theorem Gr.new {p : Addr} {o : HO} (e : Same F H) (hp : H p = none) : Gr F H (upd F p o) (upd H p o) :=
  ⟨fun b u h => by rw [upd_ne (ne_of_none h hp)]; exact h, fun b u h => by rw [upd_ne (ne_of_none (e b u h) hp)]; exact h,
   fun b u h => by
     by_cases hb : b = p
     · subst hb; rw [upd_same] at h ⊢; exact h
     · rw [upd_ne hb] at h ⊢; exact e b u h,
   fun b u h => by
     by_cases hb : b = p
     · subst hb; exact .inr hp
     · rw [upd_ne hb] at h; exact .inl h⟩
/-- a new object outside F -/
theorem Gr.out {p : Addr} {o : HO} (e : Same F H) (hp : H p = none) : Gr F H F (upd H p o) :=
  ⟨fun b u h => by rw [upd_ne (ne_of_none h hp)]; exact h, Same.refl _, fun b u h => by rw [upd_ne (ne_of_none (e b u h) hp)]; exact e b u h, fun _ _ h => .inl h⟩
theorem Br.mono {F H F' H' : Hp} {v : V} {d : D} (g : Gr F H F' H') (h : Br K F H v d) : Br K F' H' v d := by
  cases h with
  | dn h => exact .dn (h.mono g.ff)
  | lst h1 h2 => exact .lst (g.hh _ _ h1) (h2.mono g.ff)
  | dic h1 h2 => exact .dic (g.hh _ _ h1) (h2.mono g.ff)
end

/-! ### results -/
/-- what is raised: its class's name, the field's value where it has one -/
structure Ex where
  cls : Str
  fld : Option D
inductive Res (α : Type) where
  | ok (a : α)
  | exc (x : Ex)
  | bad
def Res.bind {α β : Type} (r : Res α) (f : α → Res β) : Res β := match r with
  | .ok a => f a
  | .exc x => .exc x
  | .bad => .bad
instance : Monad Res where
  pure := .ok
  bind := Res.bind
@[simp] theorem Res.pure_eq {α : Type} (a : α) : (pure a : Res α) = .ok a := rfl
@[simp] theorem Res.ok_bind {α β : Type} (a : α) (f : α → Res β) : (Res.ok a >>= f) = f a := rfl
@[simp] theorem Res.exc_bind {α β : Type} (x : Ex) (f : α → Res β) : ((Res.exc x : Res α) >>= f) = .exc x := rfl
@[simp] theorem Res.bad_bind {α β : Type} (f : α → Res β) : ((Res.bad : Res α) >>= f) = .bad := rfl
theorem Res.bind_ok {α β : Type} {r : Res α} {f : α → Res β} {b : β} (h : (r >>= f) = .ok b) : ∃ a, r = .ok a ∧ f a = .ok b := by
  cases r with
  | ok a => exact ⟨a, rfl, h⟩
  | exc x => cases h
  | bad => cases h
/-- what is wanted of a result: W of what is raised, at whatever heap holds what stood -/
abbrev XW := Ex → Value → Option Addr → Hp → Prop
/-- how what is raised lies in the heap -/
def ExIs (K : PySem.W.Frag) (mg : Str → Option Value) (H : Hp) (x : Ex) (cls : Value) (d : Option Addr) : Prop :=
  mg x.cls = some cls ∧ match x.fld with
    | none => True
    | some v => ∃ (dd : Addr) (f : Str) (u : V), d = some dd ∧ H dd = some (.xd [(f, u)]) ∧ Dn K H u v
def RQ {α : Type} (K : PySem.W.Frag) (mg : Str → Option Value) (W : WX) (σ : St) (F H : Hp) (r : Res α) (Q : α → Prop) : Prop := match r with
  | .ok a => Q a
  | .exc x => ∀ cls d H', Same H H' → ExIs K mg H' x cls d → W cls d σ H'
  | .bad => False
theorem RQ.imp {α : Type} {K : PySem.W.Frag} {mg : Str → Option Value} {W : WX} {σ : St} {F H : Hp} {r : Res α} {Q Q' : α → Prop} (h : RQ K mg W σ F H r Q) (i : ∀ a, r = .ok a → Q a → Q' a) : RQ K mg W σ F H r Q' := by
  cases r with
  | ok a => exact i a rfl h
  | exc x => exact h
  | bad => exact h
end Ev

set_option Elab.async false
set_option linter.all false
set_option maxRecDepth 100000
set_option maxHeartbeats 4000000
/-! The evaluator, part B: slots, readings of expressions, names, constants, operators by values. -/
namespace Ev
open PySem L2

abbrev Env := List (Option D)
/-- is it a list or a dict -/
def isC : D → Bool
  | .list _ => true
  | .dict _ => true
  | _ => false
/-- an owned value: its object, where it is a list or a dict, stands outside F, and was free in Z -/
def Owv (K : PySem.W.Frag) (Z F H : Hp) (v : V) : D → Prop
  | .list ds => ∃ a xs, v = .ref a ∧ Z a = none ∧ F a = none ∧ H a = some (.lst xs) ∧ DnL K F xs ds
  | .dict es => ∃ a ks, v = .ref a ∧ Z a = none ∧ F a = none ∧ H a = some (.dK ks) ∧ DnK K F ks es
  | d => Dn K F v d
theorem Owv.flat {K : PySem.W.Frag} {Z F H : Hp} {v : V} {d : D} (h : isC d = false) : Owv K Z F H v d = Dn K F v d := by
  cases d <;> first | rfl | cases h

structure Rel (K : PySem.W.Frag) (F0 H0 : Hp) (O : List Nat) (ρ : Env) (σ : St) (F H : Hp) : Prop where
  len : ρ.length = σ.length
  sfh : Same F H
  s0 : Same H0 H
  sf0 : Same F0 F
  nw : ∀ a o, F a = some o → F0 a = some o ∨ H0 a = none
  fz : ∀ (i : Nat) (d : D), i ∉ O → ρ[i]? = some (some d) → ∃ v, σ[i]? = some (some v) ∧ Dn K F v d
  ow : ∀ (i : Nat) (d : D), i ∈ O → ρ[i]? = some (some d) → ∃ v, σ[i]? = some (some v) ∧ Owv K H0 F H v d
  ap : ∀ (i j : Nat) (d e : D) (a : Addr), i ∈ O → j ∈ O → i ≠ j → ρ[i]? = some (some d) → ρ[j]? = some (some e) → isC d = true → isC e = true → σ[i]? = some (some (.ref a)) → σ[j]? = some (some (.ref a)) → False

section
variable {K : PySem.W.Frag} {F0 H0 F H F' H' Z : Hp} {O : List Nat} {ρ : Env} {σ : St}
theorem Owv.grow {v : V} {d : D} (g : Gr F H F' H') (hz : ∀ a, H a = none → Z a = none) (h : Owv K Z F H v d) : Owv K Z F' H' v d := by
  cases d with
  | list ds =>
    obtain ⟨a, xs, e1, e2, e3, e4, e5⟩ := h
    refine ⟨a, xs, e1, e2, ?_, g.hh _ _ e4, e5.mono g.ff⟩
    cases q : F' a with
    | none => rfl
    | some o =>
      rcases g.nw a o q with z | z
      · rw [e3] at z; cases z
      · rw [e4] at z; cases z
  | dict es =>
    obtain ⟨a, xs, e1, e2, e3, e4, e5⟩ := h
    refine ⟨a, xs, e1, e2, ?_, g.hh _ _ e4, e5.mono g.ff⟩
    cases q : F' a with
    | none => rfl
    | some o =>
      rcases g.nw a o q with z | z
      · rw [e3] at z; cases z
      · rw [e4] at z; cases z
  | none => exact Dn.mono g.ff _ _ h
  | bool b => exact Dn.mono g.ff _ _ h
  | int i => exact Dn.mono g.ff _ _ h
  | str x => exact Dn.mono g.ff _ _ h
  | tuple xs => exact Dn.mono g.ff _ _ h
theorem Rel.free (r : Rel K F0 H0 O ρ σ F H) {a : Addr} (h : H a = none) : H0 a = none := r.s0.free h
theorem Rel.grow (r : Rel K F0 H0 O ρ σ F H) (g : Gr F H F' H') : Rel K F0 H0 O ρ σ F' H' :=
  ⟨r.len, g.fh, r.s0.trans g.hh, r.sf0.trans g.ff, fun a o h => by
    rcases g.nw a o h with z | z
    · exact r.nw a o z
    · exact .inr (r.free z), fun i d h1 h2 => by
    obtain ⟨v, e1, e2⟩ := r.fz i d h1 h2
    exact ⟨v, e1, e2.mono g.ff⟩, fun i d h1 h2 => by
    obtain ⟨v, e1, e2⟩ := r.ow i d h1 h2
    exact ⟨v, e1, e2.grow g fun a h => r.free h⟩, r.ap⟩
theorem Owv.br {v : V} {d : D} (h : Owv K Z F H v d) : Br K F H v d := by
  cases d with
  | list ds =>
    obtain ⟨a, xs, e1, e2, e3, e4, e5⟩ := h
    subst e1; exact .lst e4 e5
  | dict es =>
    obtain ⟨a, xs, e1, e2, e3, e4, e5⟩ := h
    subst e1; exact .dic e4 e5
  | none => exact .dn h
  | bool b => exact .dn h
  | int i => exact .dn h
  | str x => exact .dn h
  | tuple xs => exact .dn h
theorem Rel.br (r : Rel K F0 H0 O ρ σ F H) {i : Nat} {d : D} (h : ρ[i]? = some (some d)) : ∃ v, σ[i]? = some (some v) ∧ Br K F H v d := by
  by_cases hi : i ∈ O
  · obtain ⟨v, e1, e2⟩ := r.ow i d hi h
    exact ⟨v, e1, e2.br⟩
  · obtain ⟨v, e1, e2⟩ := r.fz i d hi h
    exact ⟨v, e1, .dn e2⟩
/-- an owned value, let go -/
theorem Owv.let_go {v : V} {d : D} (sfh : Same F H) (h : Owv K Z F H v d) :
    ∃ F', Same F F' ∧ Same F' H ∧ (∀ b, F' b = F b ∨ (v = .ref b ∧ isC d = true ∧ Z b = none)) ∧ Dn K F' v d := by
  have core : ∀ (a : Addr) (o : HO), F a = none → Z a = none → H a = some o → Same F (upd F a o) ∧ Same (upd F a o) H ∧ (∀ b, upd F a o b = F b ∨ ((V.ref a) = .ref b ∧ Z b = none)) := fun a o e3 e2 e4 =>
    ⟨fun b o e => by rw [upd_ne (ne_of_none e e3)]; exact e, fun b o e => by
      by_cases hb : b = a
      · subst hb; rw [upd_same] at e; rw [← e]; exact e4
      · rw [upd_ne hb] at e; exact sfh b o e, fun b => by
      by_cases hb : b = a
      · subst hb; exact .inr ⟨rfl, e2⟩
      · exact .inl (upd_ne hb)⟩
  cases d with
  | list ds =>
    obtain ⟨a, xs, e1, e2, e3, e4, e5⟩ := h
    subst e1
    obtain ⟨s, s2, n⟩ := core a _ e3 e2 e4
    exact ⟨upd F a (.lst xs), s, s2, fun b => (n b).imp id fun z => ⟨z.1, rfl, z.2⟩, .lst (SqL.of upd_same) (e5.mono s)⟩
  | dict es =>
    obtain ⟨a, xs, e1, e2, e3, e4, e5⟩ := h
    subst e1
    obtain ⟨s, s2, n⟩ := core a _ e3 e2 e4
    exact ⟨upd F a (.dK xs), s, s2, fun b => (n b).imp id fun z => ⟨z.1, rfl, z.2⟩, .dic upd_same (e5.mono s)⟩
  | none => exact ⟨F, Same.refl _, sfh, fun _ => .inl rfl, h⟩
  | bool b => exact ⟨F, Same.refl _, sfh, fun _ => .inl rfl, h⟩
  | int i => exact ⟨F, Same.refl _, sfh, fun _ => .inl rfl, h⟩
  | str x => exact ⟨F, Same.refl _, sfh, fun _ => .inl rfl, h⟩
  | tuple xs => exact ⟨F, Same.refl _, sfh, fun _ => .inl rfl, h⟩
/-- behind a step from H: the owned value stands in a larger F -/
theorem Owv.dn {v : V} {d : D} (g : Gr F H F' H') (h : Owv K H F' H' v d) : ∃ F2, Gr F H F2 H' ∧ Dn K F2 v d := by
  obtain ⟨F2, s1, s2, n, q⟩ := h.let_go g.fh
  refine ⟨F2, ⟨g.hh, g.ff.trans s1, s2, fun a o e => ?_⟩, q⟩
  rcases n a with z | z
  · rw [z] at e; exact g.nw a o e
  · exact .inr z.2.2
theorem Owv.keep {v : V} {d : D} (h : Owv K Z F H v d) (s : Same F F') (n : ∀ b, isC d = true → v = .ref b → F' b = F b) : Owv K Z F' H v d := by
  cases d with
  | list ds =>
    obtain ⟨a, xs, e1, e2, e3, e4, e5⟩ := h
    exact ⟨a, xs, e1, e2, (n a rfl e1).trans e3, e4, e5.mono s⟩
  | dict es =>
    obtain ⟨a, xs, e1, e2, e3, e4, e5⟩ := h
    exact ⟨a, xs, e1, e2, (n a rfl e1).trans e3, e4, e5.mono s⟩
  | none => exact Dn.mono s _ _ h
  | bool b => exact Dn.mono s _ _ h
  | int i => exact Dn.mono s _ _ h
  | str x => exact Dn.mono s _ _ h
  | tuple xs => exact Dn.mono s _ _ h
/-- one owner less -/
theorem Rel.drop1 (r : Rel K F0 H0 O ρ σ F H) (k : Nat) : ∃ F', Same F F' ∧ Rel K F0 H0 (O.filter (· != k)) ρ σ F' H := by
  have hm : ∀ i, i ∈ O.filter (· != k) ↔ i ∈ O ∧ i ≠ k := fun i => by simp
  have base : (∀ d, k ∈ O → ρ[k]? = some (some d) → ∃ v, σ[k]? = some (some v) ∧ Dn K F v d) → Rel K F0 H0 (O.filter (· != k)) ρ σ F H := fun hk =>
    ⟨r.len, r.sfh, r.s0, r.sf0, r.nw, fun i d h1 h2 => by
      by_cases e : i ∈ O
      · have : i = k := Classical.byContradiction fun z => h1 ((hm i).mpr ⟨e, z⟩)
        subst this
        exact hk d e h2
      · exact r.fz i d e h2, fun i d h1 h2 => r.ow i d ((hm i).mp h1).1 h2, fun i j d e a h1 h2 => r.ap i j d e a ((hm i).mp h1).1 ((hm j).mp h2).1⟩
  by_cases ho : k ∈ O
  · cases hd : ρ[k]? with
    | none => exact ⟨F, Same.refl _, base fun d _ h => by rw [hd] at h; cases h⟩
    | some od =>
      cases od with
      | none => exact ⟨F, Same.refl _, base fun d _ h => by rw [hd] at h; cases h⟩
      | some d =>
        obtain ⟨v, e1, e2⟩ := r.ow k d ho hd
        by_cases hc : isC d = true
        · obtain ⟨F', s1, s2, n, q⟩ := e2.let_go r.sfh
          refine ⟨F', s1, r.len, s2, r.s0, r.sf0.trans s1, fun a o e => ?_, fun i d' h1 h2 => ?_, fun i d' h1 h2 => ?_, fun i j d e a h1 h2 => r.ap i j d e a ((hm i).mp h1).1 ((hm j).mp h2).1⟩
          · rcases n a with z | z
            · rw [z] at e; exact r.nw a o e
            · exact .inr z.2.2
          · by_cases hk : i = k
            · subst hk
              rw [hd] at h2; cases h2
              exact ⟨v, e1, q⟩
            · obtain ⟨v', p1, p2⟩ := r.fz i d' (fun z => h1 ((hm i).mpr ⟨z, hk⟩)) h2
              exact ⟨v', p1, p2.mono s1⟩
          · obtain ⟨h1, hk⟩ := (hm i).mp h1
            obtain ⟨v', p1, p2⟩ := r.ow i d' h1 h2
            refine ⟨v', p1, p2.keep s1 fun b hc' ev => ?_⟩
            rcases n b with z | z
            · exact z
            · exact (r.ap i k d' d b h1 ho hk h2 hd hc' hc (by rw [p1, ev]) (by rw [e1, z.1])).elim
        · have hc' : isC d = false := by simpa using hc
          exact ⟨F, Same.refl _, base fun d' _ h => by
            rw [hd] at h; cases h
            exact ⟨v, e1, by rw [Owv.flat hc'] at e2; exact e2⟩⟩
  · exact ⟨F, Same.refl _, base fun d h => absurd h ho⟩
theorem Rel.ext (r : Rel K F0 H0 O ρ σ F H) {O' : List Nat} (h : ∀ i, i ∈ O ↔ i ∈ O') : Rel K F0 H0 O' ρ σ F H :=
  ⟨r.len, r.sfh, r.s0, r.sf0, r.nw, fun i d h1 => r.fz i d fun z => h1 ((h i).mp z), fun i d h1 => r.ow i d ((h i).mpr h1), fun i j d e a h1 h2 => r.ap i j d e a ((h i).mpr h1) ((h j).mpr h2)⟩
theorem Rel.dropL : ∀ (L : List Nat) {O : List Nat} {F : Hp}, Rel K F0 H0 O ρ σ F H → ∃ F', Same F F' ∧ Rel K F0 H0 (O.filter fun i => !L.contains i) ρ σ F' H
  | [], O, F, r => ⟨F, Same.refl _, r.ext fun i => by simp⟩
  | k :: L, O, F, r => by
    obtain ⟨F1, s1, r1⟩ := r.drop1 k
    obtain ⟨F2, s2, r2⟩ := Rel.dropL L r1
    refine ⟨F2, s1.trans s2, r2.ext fun i => ?_⟩
    simp only [List.mem_filter, List.contains_cons, Bool.not_or, Bool.and_eq_true, bne_iff_ne, ne_eq, Bool.not_eq_true', beq_eq_false_iff_ne]
    constructor
    · rintro ⟨⟨a, b⟩, c⟩; exact ⟨a, b, c⟩
    · rintro ⟨a, b, c⟩; exact ⟨⟨a, b⟩, c⟩
/-- fewer owners -/
theorem Rel.sub (r : Rel K F0 H0 O ρ σ F H) {O' : List Nat} (h : ∀ i ∈ O', i ∈ O) : ∃ F', Same F F' ∧ Rel K F0 H0 O' ρ σ F' H := by
  obtain ⟨F', s, r'⟩ := Rel.dropL (O.filter fun i => !O'.contains i) r
  refine ⟨F', s, r'.ext fun i => ?_⟩
  simp only [List.mem_filter, Bool.not_eq_true', List.contains_eq_mem, decide_eq_false_iff_not, not_and, Classical.not_not]
  constructor
  · rintro ⟨a, b⟩; exact b a
  · intro a; exact ⟨h i a, fun _ => a⟩
end

/-! ### readings -/
section
variable {K : PySem.W.Frag} {mg : Str → Option Value} {W : WX} {F0 H0 : Hp} {O : List Nat}
/-- an expression's reading: frozen, read only, owned -/
def tE (K : PySem.W.Frag) (mg : Str → Option Value) (W : WX) (F0 H0 : Hp) (O : List Nat) (f : Env → Res D) : TE := fun σ H Q => ∃ ρ F, Rel K F0 H0 O ρ σ F H ∧ RQ K mg W σ F H (f ρ) fun d => ∀ v F' H', Gr F H F' H' → Dn K F' v d → Q v H'
def tR (K : PySem.W.Frag) (mg : Str → Option Value) (W : WX) (F0 H0 : Hp) (O : List Nat) (f : Env → Res D) : TE := fun σ H Q => ∃ ρ F, Rel K F0 H0 O ρ σ F H ∧ RQ K mg W σ F H (f ρ) fun d => ∀ v F' H', Gr F H F' H' → Br K F' H' v d → Q v H'
def tO (K : PySem.W.Frag) (mg : Str → Option Value) (W : WX) (F0 H0 : Hp) (O : List Nat) (f : Env → Res D) : TE := fun σ H Q => ∃ ρ F, Rel K F0 H0 O ρ σ F H ∧ RQ K mg W σ F H (f ρ) fun d => ∀ v F' H', Gr F H F' H' → Owv K H F' H' v d → Q v H'
/-- a test's -/
def tT (K : PySem.W.Frag) (mg : Str → Option Value) (W : WX) (F0 H0 : Hp) (O : List Nat) (f : Env → Res Bool) : TT := fun σ H Q => ∃ ρ F, Rel K F0 H0 O ρ σ F H ∧ RQ K mg W σ F H (f ρ) fun b => ∀ F' H', Gr F H F' H' → Q b H'
/-- arguments': frozen, read only -/
def tA (K : PySem.W.Frag) (mg : Str → Option Value) (W : WX) (F0 H0 : Hp) (O : List Nat) (f : Env → Res (List D)) : TA := fun σ H Q => ∃ ρ F, Rel K F0 H0 O ρ σ F H ∧ RQ K mg W σ F H (f ρ) fun ds => ∀ vs F' H', Gr F H F' H' → DnL K F' vs ds → Q vs H'
inductive BrL (K : PySem.W.Frag) (F H : Hp) : List V → List D → Prop
  | nil : BrL K F H [] []
  | cons {v : V} {vs : List V} {d : D} {ds : List D} : Br K F H v d → BrL K F H vs ds → BrL K F H (v :: vs) (d :: ds)
theorem BrL.grow {F H F' H' : Hp} (g : Gr F H F' H') : ∀ {ds : List D} {vs : List V}, BrL K F H vs ds → BrL K F' H' vs ds
  | [], _, h => by cases h; exact .nil
  | d :: ds, _, h => by
    cases h with
    | cons h1 h2 => exact .cons (h1.mono g) (BrL.grow g h2)
theorem DnL.br {F H : Hp} : ∀ {ds : List D} {vs : List V}, DnL K F vs ds → BrL K F H vs ds
  | [], _, h => by cases h; exact .nil
  | d :: ds, _, h => by
    cases h with
    | cons h1 h2 => exact .cons (.dn h1) (DnL.br h2)
def tAR (K : PySem.W.Frag) (mg : Str → Option Value) (W : WX) (F0 H0 : Hp) (O : List Nat) (f : Env → Res (List D)) : TA := fun σ H Q => ∃ ρ F, Rel K F0 H0 O ρ σ F H ∧ RQ K mg W σ F H (f ρ) fun ds => ∀ vs F' H', Gr F H F' H' → BrL K F' H' vs ds → Q vs H'

theorem RQ.later {α : Type} {σ : St} {F H F1 H1 : Hp} {r : Res α} {Q Q' : α → Prop} (h : RQ K mg W σ F H r Q) (s : Same H H1) (i : ∀ a, Q a → Q' a) : RQ K mg W σ F1 H1 r Q' := by
  cases r with
  | ok a => exact i a h
  | exc x => exact fun cls d H' e z => h cls d H' (s.trans e) z
  | bad => exact h
/-- one step, then another -/
theorem RQ.seq {α β : Type} {σ : St} {F H : Hp} {r : Res α} {k : α → Res β} {Q : β → Prop} (h : RQ K mg W σ F H (r >>= k) Q) : RQ K mg W σ F H r fun a => RQ K mg W σ F H (k a) Q := by
  cases r with
  | ok a => exact h
  | exc x => exact h
  | bad => exact h
theorem PE.of {X : Cx} {e : Expr} {t t' : TE} (h : PE X e t) (i : ∀ σ H Q, t' σ H Q → t σ H Q) : PE X e t' := ⟨fun pins s σ H Q I q => h.run pins s σ H Q I (i σ H Q q)⟩
theorem PT.of {X : Cx} {e : Expr} {t t' : TT} (h : PT X e t) (i : ∀ σ H Q, t' σ H Q → t σ H Q) : PT X e t' := ⟨fun pins s σ H Q I q => h.run pins s σ H Q I (i σ H Q q)⟩
theorem PW.of {X : Cx} {e : Expr} {t t' : TT} (h : PW X e t) (i : ∀ σ H Q, t' σ H Q → t σ H Q) : PW X e t' := ⟨fun w pins s σ H Q I q => h.run w pins s σ H Q I (i σ H Q q)⟩
theorem PA.of {X : Cx} {es : List Expr} {t t' : TA} (h : PA X es t) (i : ∀ σ H Q, t' σ H Q → t σ H Q) : PA X es t' := ⟨fun pos pins s σ H Q I q => h.run pos pins s σ H Q I (i σ H Q q)⟩
theorem PS.of {X : Cx} {e : Stmt} {t t' : TS} (h : PS X e t) (i : ∀ D σ H, t' D σ H → t D σ H) : PS X e t' := ⟨fun pins s σ H D I q => h.run pins s σ H D I (i D σ H q)⟩
theorem PSs.of {X : Cx} {e : List Stmt} {t t' : TS} (h : PSs X e t) (i : ∀ D σ H, t' D σ H → t D σ H) : PSs X e t' := ⟨fun pins s σ H D I q => h.run pins s σ H D I (i D σ H q)⟩
section
variable {X : Cx} {e : Expr} {f : Env → Res D}
theorem PE.r_of_e (h : PE X e (tE K mg W F0 H0 O f)) : PE X e (tR K mg W F0 H0 O f) := PE.of h fun σ H Q ⟨ρ, F, r, q⟩ => ⟨ρ, F, r, q.imp fun d _ k v F' H' g n => k v F' H' g (.dn n)⟩
theorem PE.e_of_o (h : PE X e (tO K mg W F0 H0 O f)) : PE X e (tE K mg W F0 H0 O f) := PE.of h fun σ H Q ⟨ρ, F, r, q⟩ => ⟨ρ, F, r, q.imp fun d _ k v F' H' g n => by
  obtain ⟨F2, g2, n2⟩ := n.dn g
  exact k v F2 H' g2 n2⟩
end
end
end Ev

set_option Elab.async false
set_option linter.all false
set_option maxRecDepth 100000
set_option maxHeartbeats 4000000
/-! The evaluator, part C: combinators and their readings; operators on data. -/
namespace Ev
open PySem L2

@[reducible] def line : Nat := 16777216
theorem line_eq : (sizeLine : Nat) = line := by rw [sizeLine_eq]
def ofO {α : Type} : Option α → Res α
  | some a => .ok a
  | none => .bad
@[simp] theorem ofO_some {α : Type} (a : α) : ofO (some a) = .ok a := rfl
@[simp] theorem ofO_none {α : Type} : (ofO none : Res α) = .bad := rfl
def cSlot (i : Nat) : Env → Res D := fun ρ => match ρ[i]? with
  | some (some d) => .ok d
  | _ => .bad
def cLit (d : D) : Env → Res D := fun _ => .ok d
def c1 (g : D → Option D) (f : Env → Res D) : Env → Res D := fun ρ => do
  let a ← f ρ
  ofO (g a)
def c2 (g : D → D → Option D) (f h : Env → Res D) : Env → Res D := fun ρ => do
  let a ← f ρ
  let b ← h ρ
  ofO (g a b)
def cs (fs : List (Env → Res D)) : Env → Res (List D) := fun ρ => match fs with
  | [] => .ok []
  | f :: r => do
    let a ← f ρ
    let as ← cs r ρ
    .ok (a :: as)
def cN (g : List D → Option D) (fs : List (Env → Res D)) : Env → Res D := fun ρ => do
  let as ← cs fs ρ
  ofO (g as)
def asB : D → Res Bool
  | .bool b => .ok b
  | _ => .bad
def cB (f : Env → Res D) : Env → Res Bool := fun ρ => do
  let a ← f ρ
  asB a
def cAnd (f h : Env → Res D) : Env → Res D := fun ρ => do
  let b ← cB f ρ
  if b = true then h ρ else .ok (.bool false)
def cOr (f h : Env → Res D) : Env → Res D := fun ρ => do
  let b ← cB f ρ
  if b = true then .ok (.bool true) else h ρ
def cNot (f : Env → Res D) : Env → Res D := fun ρ => do
  let b ← cB f ρ
  .ok (.bool !b)
def cIf (c f h : Env → Res D) : Env → Res D := fun ρ => do
  let b ← cB c ρ
  if b = true then f ρ else h ρ
def cTup (fs : List (Env → Res D)) : Env → Res D := cN (fun as => if as.length ≤ line then some (.tuple as) else none) fs
def cLst (fs : List (Env → Res D)) : Env → Res D := cN (fun as => if as.length ≤ line then some (.list as) else none) fs
def cChain (g h : D → D → Option D) (fa fb fc : Env → Res D) : Env → Res D := fun ρ => do
  let a ← fa ρ
  let b ← fb ρ
  let z ← ofO (g a b)
  let k ← asB z
  if k = true then do
    let c ← fc ρ
    ofO (h b c)
  else .ok (.bool false)

section
variable {X : Cx} {W : WX} {F0 H0 : Hp} {O : List Nat}
abbrev xE (X : Cx) (W : WX) (F0 H0 : Hp) (O : List Nat) (f : Env → Res D) : TE := tE X.K X.mg W F0 H0 O f
abbrev xR (X : Cx) (W : WX) (F0 H0 : Hp) (O : List Nat) (f : Env → Res D) : TE := tR X.K X.mg W F0 H0 O f
abbrev xO (X : Cx) (W : WX) (F0 H0 : Hp) (O : List Nat) (f : Env → Res D) : TE := tO X.K X.mg W F0 H0 O f
abbrev xT (X : Cx) (W : WX) (F0 H0 : Hp) (O : List Nat) (f : Env → Res Bool) : TT := tT X.K X.mg W F0 H0 O f
abbrev xA (X : Cx) (W : WX) (F0 H0 : Hp) (O : List Nat) (f : Env → Res (List D)) : TA := tA X.K X.mg W F0 H0 O f
abbrev xAR (X : Cx) (W : WX) (F0 H0 : Hp) (O : List Nat) (f : Env → Res (List D)) : TA := tAR X.K X.mg W F0 H0 O f

theorem Owv.z {K : PySem.W.Frag} {Z Z' F H : Hp} {v : V} {d : D} (h : Owv K Z F H v d) (s : ∀ a, Z a = none → Z' a = none) : Owv K Z' F H v d := by
  cases d with
  | list ds =>
    obtain ⟨a, xs, e1, e2, e3⟩ := h
    exact ⟨a, xs, e1, s a e2, e3⟩
  | dict ds =>
    obtain ⟨a, xs, e1, e2, e3⟩ := h
    exact ⟨a, xs, e1, s a e2, e3⟩
  | none => exact h
  | bool b => exact h
  | int i => exact h
  | str x => exact h
  | tuple xs => exact h

/-! ### names, constants -/
theorem pe_slotR {i : Nat} {x : Str} {pos : Pos} (hN : X.N[i]? = some x) (hv : Vis X.env.scope x) (hd : (x == ("__debug__" : Str)) = false) (hcd : (x == ("__classdict__" : Str)) = false) : PE X (.Name x pos) (xR X W F0 H0 O (cSlot i)) :=
  PE.of (pe_var hN hv hd hcd) fun σ H Q ⟨ρ, F, r, q⟩ => by
    unfold cSlot at q
    split at q
    · rename_i d e
      obtain ⟨v, e1, e2⟩ := r.br e
      exact ⟨v, e1, q v F H (Gr.refl r.sfh) e2⟩
    · exact False.elim q
theorem pe_slotE {i : Nat} {x : Str} {pos : Pos} (ho : i ∉ O) (hN : X.N[i]? = some x) (hv : Vis X.env.scope x) (hd : (x == ("__debug__" : Str)) = false) (hcd : (x == ("__classdict__" : Str)) = false) : PE X (.Name x pos) (xE X W F0 H0 O (cSlot i)) :=
  PE.of (pe_var hN hv hd hcd) fun σ H Q ⟨ρ, F, r, q⟩ => by
    unfold cSlot at q
    split at q
    · rename_i d e
      obtain ⟨v, e1, e2⟩ := r.fz i d ho e
      exact ⟨v, e1, q v F H (Gr.refl r.sfh) e2⟩
    · exact False.elim q
theorem lit_of {d : D} {v : V} (hd : ∀ F : Hp, Dn X.K F v d) (σ : St) (H : Hp) (Q : VK) (h : xE X W F0 H0 O (cLit d) σ H Q) : tC v σ H Q := by
  obtain ⟨ρ, F, r, q⟩ := h
  exact q v F H (Gr.refl r.sfh) (hd F)
theorem pe_litI {i : Int} {j pos} : PE X (.Constant (.int i) j pos) (xE X W F0 H0 O (cLit (.int i))) := PE.of pe_int (lit_of fun _ => .int i)
theorem pe_litB {b : Bool} {j pos} : PE X (.Constant (.bool b) j pos) (xE X W F0 H0 O (cLit (.bool b))) := PE.of pe_bl (lit_of fun _ => .bl b)
theorem pe_litN {j pos} : PE X (.Constant .none j pos) (xE X W F0 H0 O (cLit .none)) := PE.of pe_non (lit_of fun _ => .non)
theorem pe_litS {x : Str} {j pos} : PE X (.Constant (.str x) j pos) (xE X W F0 H0 O (cLit (.str x))) := PE.of pe_str (lit_of fun _ => .str x)
/-- a scalar as a value -/
def scV : D → Option V
  | .none => some .non
  | .bool b => some (.bl b)
  | .int i => some (.int i)
  | .str x => some (.str x)
  | _ => none
theorem scV_dn {K : PySem.W.Frag} {d : D} {v : V} (h : scV d = some v) (F : Hp) : Dn K F v d := by
  cases d <;> simp only [scV, Option.some.injEq] at h <;> first | (subst h; constructor) | cases h
theorem pe_const {x : Str} {d : D} {v : V} {u : Value} {pos : Pos} (hg : Gl X x) (hm : X.mg x = some u) (hs : scV d = some v) (hr : RelV v u) (hd : (x == ("__debug__" : Str)) = false) : PE X (.Name x pos) (xE X W F0 H0 O (cLit d)) :=
  PE.of (pe_glob hg hm hr hd) (lit_of (scV_dn hs))

/-! ### operators by values -/
/-- what a rule of two values must do with data -/
def Op2 (K : PySem.W.Frag) (r : R2) (g : D → D → Option D) : Prop :=
  ∀ (F H : Hp) (x y : V) (a b c : D) (Q : VK), Same F H → Br K F H x a → Br K F H y b → g a b = some c → (∀ v F' H', Gr F H F' H' → Owv K H F' H' v c → Q v H') → r x y H Q
/-- the same, what comes is not new -/
def Op2E (K : PySem.W.Frag) (r : R2) (g : D → D → Option D) : Prop :=
  ∀ (F H : Hp) (x y : V) (a b c : D) (Q : VK), Same F H → Br K F H x a → Br K F H y b → g a b = some c → (∀ v F' H', Gr F H F' H' → Dn K F' v c → Q v H') → r x y H Q
theorem op2O {r : R2} {g : D → D → Option D} {fa fb : Env → Res D} (o : Op2 X.K r g) (σ : St) (H : Hp) (Q : VK) (h : xO X W F0 H0 O (c2 g fa fb) σ H Q) : tOp r (xR X W F0 H0 O fa) (xR X W F0 H0 O fb) σ H Q := by
  obtain ⟨ρ, F, rel, q⟩ := h
  refine ⟨ρ, F, rel, (RQ.seq q).imp fun a _ q1 v1 F1 H1 g1 b1 => ?_⟩
  refine ⟨ρ, F1, rel.grow g1, (RQ.seq q1).later g1.hh fun b q2 v2 F2 H2 g2 b2 => ?_⟩
  cases e : g a b with
  | none => rw [e] at q2; exact False.elim q2
  | some c =>
    rw [e] at q2
    exact o F2 H2 v1 v2 a b c Q g2.fh (b1.mono g2) b2 e fun v F' H' g' w => q2 v F' H' (g1.trans (g2.trans g')) (w.z fun p z => g1.hh.free (g2.hh.free z))
theorem op2E {r : R2} {g : D → D → Option D} {fa fb : Env → Res D} (o : Op2E X.K r g) (σ : St) (H : Hp) (Q : VK) (h : xE X W F0 H0 O (c2 g fa fb) σ H Q) : tOp r (xR X W F0 H0 O fa) (xR X W F0 H0 O fb) σ H Q := by
  obtain ⟨ρ, F, rel, q⟩ := h
  refine ⟨ρ, F, rel, (RQ.seq q).imp fun a _ q1 v1 F1 H1 g1 b1 => ?_⟩
  refine ⟨ρ, F1, rel.grow g1, (RQ.seq q1).later g1.hh fun b q2 v2 F2 H2 g2 b2 => ?_⟩
  cases e : g a b with
  | none => rw [e] at q2; exact False.elim q2
  | some c =>
    rw [e] at q2
    exact o F2 H2 v1 v2 a b c Q g2.fh (b1.mono g2) b2 e fun v F' H' g' w => q2 v F' H' (g1.trans (g2.trans g')) w
variable {a b : Expr} {fa fb : Env → Res D} {pos : Pos}
theorem pe_bin {op : Operator} {r : R2} {g : D → D → Option D} (ho : OpR X (binaryOp op) r) (o : Op2 X.K r g) (ha : PE X a (xR X W F0 H0 O fa)) (hb : PE X b (xR X W F0 H0 O fb)) : PE X (.BinOp a op b pos) (xO X W F0 H0 O (c2 g fa fb)) :=
  PE.of (pe_op ho ha hb) (op2O o)
theorem pe_cmp2 {op : CmpOp} {r : R2} {g : D → D → Option D} (ho : OpR X (compareOp op) r) (o : Op2 X.K r g) (ha : PE X a (xR X W F0 H0 O fa)) (hb : PE X b (xR X W F0 H0 O fb)) (hm : behindInMarks op b = false) : PE X (.Compare a [op] [b] pos) (xO X W F0 H0 O (c2 g fa fb)) :=
  PE.of (pe_cmpR ho ha hb hm) (op2O o)
/-- a flat result from a rule that leaves the heap -/
theorem Op2.flat {K : PySem.W.Frag} {r : R2} {g : D → D → Option D} (h : ∀ (F H : Hp) (x y : V) (a b c : D) (Q : VK), Same F H → Br K F H x a → Br K F H y b → g a b = some c → ∃ v, (∀ F, Dn K F v c) ∧ isC c = false ∧ (Q v H → r x y H Q)) : Op2 K r g := by
  intro F H x y a b c Q s b1 b2 e k
  obtain ⟨v, h1, h2, h3⟩ := h F H x y a b c Q s b1 b2 e
  exact h3 (k v F H (Gr.refl s) (by rw [Owv.flat h2]; exact h1 F))

/-! ### tests -/
theorem asB_ok {d : D} {b : Bool} (h : asB d = .ok b) : d = .bool b := by
  cases d <;> simp [asB] at h <;> first | (subst h; rfl) | cases h
theorem asB_cases (d : D) : (∃ b, d = .bool b ∧ asB d = .ok b) ∨ asB d = .bad := by
  cases d <;> first | exact .inr rfl | exact .inl ⟨_, rfl, rfl⟩
theorem test_of {f : Env → Res D} (σ : St) (H : Hp) (Q : Bool → Hp → Prop) (h : xT X W F0 H0 O (cB f) σ H Q) : tTest (xE X W F0 H0 O f) σ H Q := by
  obtain ⟨ρ, F, rel, q⟩ := h
  refine ⟨ρ, F, rel, (RQ.seq q).imp fun a _ q1 v F1 H1 g n => ?_⟩
  rcases asB_cases a with ⟨k, rfl, e⟩ | e
  · rw [e] at q1
    cases n
    exact ⟨k, rfl, q1 F1 H1 g⟩
  · rw [e] at q1; exact False.elim q1
theorem tB_of {f : Env → Res D} (σ : St) (H : Hp) (Q : Bool → Hp → Prop) (h : xT X W F0 H0 O (cB f) σ H Q) : tB (xE X W F0 H0 O f) σ H Q := test_of σ H Q h
theorem pe_andE {op} {rest : List Expr} {fa fb : Env → Res D} (hop : op = BoolOp.And) (ha : PE X a (xE X W F0 H0 O fa)) (hb : PE X (.BoolOp op (b :: rest) pos) (xE X W F0 H0 O fb)) : PE X (.BoolOp op (a :: b :: rest) pos) (xE X W F0 H0 O (cAnd fa fb)) := by
  subst hop
  refine PE.of (pe_and ha hb) fun σ H Q ⟨ρ, F, rel, q⟩ => ?_
  refine ⟨ρ, F, rel, (RQ.seq (RQ.seq q)).imp fun d _ q1 v F1 H1 g n => ?_⟩
  rcases asB_cases d with ⟨k, rfl, e⟩ | e
  · rw [e] at q1
    cases n
    refine ⟨k, rfl, ?_⟩
    cases k with
    | true =>
      refine iteT ⟨ρ, F1, rel.grow g, RQ.later (show RQ X.K X.mg W σ F H (fb ρ) _ from q1) g.hh fun d q2 v2 F2 H2 g2 n2 => q2 v2 F2 H2 (g.trans g2) n2⟩
    | false => exact iteF (q1 _ F1 H1 g (.bl false))
  · rw [e] at q1; exact False.elim q1
theorem pe_orE {op} {rest : List Expr} {fa fb : Env → Res D} (hop : op = BoolOp.Or) (ha : PE X a (xE X W F0 H0 O fa)) (hb : PE X (.BoolOp op (b :: rest) pos) (xE X W F0 H0 O fb)) : PE X (.BoolOp op (a :: b :: rest) pos) (xE X W F0 H0 O (cOr fa fb)) := by
  subst hop
  refine PE.of (pe_or ha hb) fun σ H Q ⟨ρ, F, rel, q⟩ => ?_
  refine ⟨ρ, F, rel, (RQ.seq (RQ.seq q)).imp fun d _ q1 v F1 H1 g n => ?_⟩
  rcases asB_cases d with ⟨k, rfl, e⟩ | e
  · rw [e] at q1
    cases n
    refine ⟨k, rfl, ?_⟩
    cases k with
    | false =>
      refine iteF ⟨ρ, F1, rel.grow g, RQ.later (show RQ X.K X.mg W σ F H (fb ρ) _ from q1) g.hh fun d q2 v2 F2 H2 g2 n2 => q2 v2 F2 H2 (g.trans g2) n2⟩
    | true => exact iteT (q1 _ F1 H1 g (.bl true))
  · rw [e] at q1; exact False.elim q1
theorem pe_notE {fa : Env → Res D} (ha : PE X a (xE X W F0 H0 O fa)) : PE X (.UnaryOp .Not a pos) (xE X W F0 H0 O (cNot fa)) := by
  refine PE.of (pe_not ha) fun σ H Q ⟨ρ, F, rel, q⟩ => ?_
  refine ⟨ρ, F, rel, (RQ.seq (RQ.seq q)).imp fun d _ q1 v F1 H1 g n => ?_⟩
  rcases asB_cases d with ⟨k, rfl, e⟩ | e
  · rw [e] at q1
    cases n
    exact ⟨k, rfl, q1 _ F1 H1 g (.bl _)⟩
  · rw [e] at q1; exact False.elim q1
/-- the tests' own forms -/
theorem RQ.cB {σ : St} {F H : Hp} {ρ : Env} {f : Env → Res D} {Q : Bool → Prop} (h : RQ X.K X.mg W σ F H (cB f ρ) Q) : RQ X.K X.mg W σ F H (f ρ) fun d => ∃ b, d = .bool b ∧ Q b := by
  refine (RQ.seq h).imp fun d _ q => ?_
  rcases asB_cases d with ⟨k, rfl, e⟩ | e
  · rw [e] at q; exact ⟨k, rfl, q⟩
  · rw [e] at q; exact False.elim q
theorem cB_and (fa fb : Env → Res D) (ρ : Env) : Ev.cB (cAnd fa fb) ρ = (Ev.cB fa ρ >>= fun b => if b = true then Ev.cB fb ρ else .ok false) := by
  show ((Ev.cB fa ρ >>= fun b => if b = true then fb ρ else .ok (.bool false)) >>= asB) = _
  cases Ev.cB fa ρ with
  | ok b => cases b <;> rfl
  | exc x => rfl
  | bad => rfl
theorem cB_or (fa fb : Env → Res D) (ρ : Env) : Ev.cB (cOr fa fb) ρ = (Ev.cB fa ρ >>= fun b => if b = true then .ok true else Ev.cB fb ρ) := by
  show ((Ev.cB fa ρ >>= fun b => if b = true then .ok (.bool true) else fb ρ) >>= asB) = _
  cases Ev.cB fa ρ with
  | ok b => cases b <;> rfl
  | exc x => rfl
  | bad => rfl
theorem pw_andT {rest : List Expr} {fa fb : Env → Res D} (ha : PT X a (xT X W F0 H0 O (cB fa))) (hb : PW X (.BoolOp .And (b :: rest) pos) (xT X W F0 H0 O (cB fb))) : PW X (.BoolOp .And (a :: b :: rest) pos) (xT X W F0 H0 O (cB (cAnd fa fb))) := by
  refine PW.of (pw_and ha hb) fun σ H Q ⟨ρ, F, rel, q⟩ => ?_
  rw [cB_and] at q
  refine ⟨ρ, F, rel, (RQ.seq q).imp fun k _ q1 F1 H1 g => ?_⟩
  cases k with
  | true => exact iteT ⟨ρ, F1, rel.grow g, RQ.later (show RQ X.K X.mg W σ F H (Ev.cB fb ρ) _ from q1) g.hh fun d q2 F2 H2 g2 => q2 F2 H2 (g.trans g2)⟩
  | false => exact iteF (q1 F1 H1 g)
theorem pw_orT {rest : List Expr} {fa fb : Env → Res D} (ha : PT X a (xT X W F0 H0 O (cB fa))) (hb : PW X (.BoolOp .Or (b :: rest) pos) (xT X W F0 H0 O (cB fb))) : PW X (.BoolOp .Or (a :: b :: rest) pos) (xT X W F0 H0 O (cB (cOr fa fb))) := by
  refine PW.of (pw_or ha hb) fun σ H Q ⟨ρ, F, rel, q⟩ => ?_
  rw [cB_or] at q
  refine ⟨ρ, F, rel, (RQ.seq q).imp fun k _ q1 F1 H1 g => ?_⟩
  cases k with
  | false => exact iteF ⟨ρ, F1, rel.grow g, RQ.later (show RQ X.K X.mg W σ F H (Ev.cB fb ρ) _ from q1) g.hh fun d q2 F2 H2 g2 => q2 F2 H2 (g.trans g2)⟩
  | true => exact iteT (q1 F1 H1 g)
theorem pt_notT {fa : Env → Res D} (ha : PT X a (xT X W F0 H0 O (cB fa))) : PT X (.UnaryOp .Not a pos) (xT X W F0 H0 O (cB (cNot fa))) := by
  refine PT.of (pt_not ha) fun σ H Q ⟨ρ, F, rel, q⟩ => ?_
  exact ⟨ρ, F, rel, (RQ.seq (RQ.seq q)).imp fun k _ q1 F1 H1 g => q1 F1 H1 g⟩
theorem pe_ifE {c : Expr} {fc fa fb : Env → Res D} (hc : PT X c (xT X W F0 H0 O (cB fc))) (ha : PE X a (xE X W F0 H0 O fa)) (hb : PE X b (xE X W F0 H0 O fb)) : PE X (.IfExp c a b pos) (xE X W F0 H0 O (cIf fc fa fb)) := by
  refine PE.of (pe_ifExp hc ha hb) fun σ H Q ⟨ρ, F, rel, q⟩ => ?_
  refine ⟨ρ, F, rel, (RQ.seq q).imp fun k _ q1 F1 H1 g => ?_⟩
  cases k with
  | true => exact iteT ⟨ρ, F1, rel.grow g, RQ.later (show RQ X.K X.mg W σ F H (fa ρ) _ from q1) g.hh fun d q2 v2 F2 H2 g2 n2 => q2 v2 F2 H2 (g.trans g2) n2⟩
  | false => exact iteF ⟨ρ, F1, rel.grow g, RQ.later (show RQ X.K X.mg W σ F H (fb ρ) _ from q1) g.hh fun d q2 v2 F2 H2 g2 n2 => q2 v2 F2 H2 (g.trans g2) n2⟩

/-! ### chains -/
theorem chain_rd {r r' : R2} {g h : D → D → Option D} {fa fb fc : Env → Res D} (o : Op2 X.K r g) (o' : Op2 X.K r' h) (σ : St) (H : Hp) (Q : VK) (hh : xE X W F0 H0 O (cChain g h fa fb fc) σ H Q) :
    tChain r r' (xR X W F0 H0 O fa) (xR X W F0 H0 O fb) (xR X W F0 H0 O fc) σ H Q := by
  obtain ⟨ρ, F, rel, q⟩ := hh
  refine ⟨ρ, F, rel, (RQ.seq q).imp fun a _ q1 v1 F1 H1 g1 b1 => ?_⟩
  refine ⟨ρ, F1, rel.grow g1, (RQ.seq q1).later g1.hh fun b q2 v2 F2 H2 g2 b2 => ?_⟩
  cases e : g a b with
  | none => rw [e] at q2; exact False.elim q2
  | some c =>
    rw [e] at q2
    refine o F2 H2 v1 v2 a b c _ g2.fh (b1.mono g2) b2 e fun v F' H' g' w => ?_
    rcases asB_cases c with ⟨k, rfl, e'⟩ | e'
    · have q3 := q2
      simp only [ofO_some, Res.ok_bind, e'] at q3
      cases w
      refine ⟨k, rfl, ?_⟩
      have gg := g1.trans (g2.trans g')
      cases k with
      | true =>
        rw [if_pos rfl] at q3
        refine iteT ⟨ρ, F', rel.grow gg, (RQ.seq q3).later gg.hh fun z q4 v3 F3 H3 g3 b3 => ?_⟩
        cases e2 : h b z with
        | none => rw [e2] at q4; exact False.elim q4
        | some z' =>
          rw [e2] at q4
          refine o' F3 H3 v2 v3 b z z' Q g3.fh ((b2.mono g').mono g3) b3 e2 fun v F4 H4 g4 w4 => ?_
          obtain ⟨F5, g5, n5⟩ := w4.dn g4
          exact q4 v F5 H4 (gg.trans (g3.trans g5)) n5
      | false =>
        rw [if_neg Bool.false_ne_true] at q3
        exact iteF (q3 _ F' H' gg (.bl false))
    · simp only [ofO_some, Res.ok_bind, e', Res.bad_bind] at q2
      exact False.elim q2
theorem pe_chainE {op op' : CmpOp} {r r' : R2} {g h : D → D → Option D} {c : Expr} {fc : Env → Res D} (ho : OpR X (compareOp op) r) (ho' : OpR X (compareOp op') r') (o : Op2 X.K r g) (o' : Op2 X.K r' h)
    (ha : PE X a (xR X W F0 H0 O fa)) (hb : PE X b (xR X W F0 H0 O fb)) (hc : PE X c (xR X W F0 H0 O fc)) (hm : lastMarks [op, op'] [b, c] = false) : PE X (.Compare a [op, op'] [b, c] pos) (xE X W F0 H0 O (cChain g h fa fb fc)) :=
  PE.of (pe_chain ho ho' ha hb hc hm) (chain_rd o o')
theorem pt_chainT {op op' : CmpOp} {r r' : R2} {g h : D → D → Option D} {c : Expr} {fc : Env → Res D} (ho : OpR X (compareOp op) r) (ho' : OpR X (compareOp op') r') (o : Op2 X.K r g) (o' : Op2 X.K r' h)
    (ha : PE X a (xR X W F0 H0 O fa)) (hb : PE X b (xR X W F0 H0 O fb)) (hc : PE X c (xR X W F0 H0 O fc)) (hm : lastMarks [op, op'] [b, c] = false) : PT X (.Compare a [op, op'] [b, c] pos) (xT X W F0 H0 O (cB (cChain g h fa fb fc))) :=
  PT.of (pt_chain ho ho' ha hb hc hm) fun σ H Q q => by
    have q' := test_of σ H Q q
    exact chain_rd o o' σ H _ q'
theorem pt_cmp2 {op : CmpOp} {r : R2} {g : D → D → Option D} (ho : OpR X (compareOp op) r) (o : Op2 X.K r g) (ha : PE X a (xR X W F0 H0 O fa)) (hb : PE X b (xR X W F0 H0 O fb)) (hm : behindInMarks op b = false) : PT X (.Compare a [op] [b] pos) (xT X W F0 H0 O (cB (c2 g fa fb))) :=
  PT.of (pt_cmpR ho ha hb hm) fun σ H Q q => by
    have q' := test_of σ H Q q
    refine op2O o σ H _ ?_
    obtain ⟨ρ, F, rel, z⟩ := q'
    refine ⟨ρ, F, rel, z.imp fun d _ k v F' H' g' w => ?_⟩
    obtain ⟨F5, g5, n5⟩ := w.dn g'
    exact k v F5 H' g5 n5

/-! ### arguments -/
variable {es : List Expr} {fs : List (Env → Res D)}
theorem pa_nilE : PA X [] (xA X W F0 H0 O (cs [])) := PA.of pa_nil fun σ H Q ⟨ρ, F, rel, q⟩ => q [] F H (Gr.refl rel.sfh) .nil
theorem pa_consE {e : Expr} {f : Env → Res D} (ha : PE X e (xE X W F0 H0 O f)) (hr : PA X es (xA X W F0 H0 O (cs fs))) (hs : starEach (e :: es) X.env = (false, eval e X.env) :: starEach es X.env) : PA X (e :: es) (xA X W F0 H0 O (cs (f :: fs))) :=
  PA.of (pa_cons ha hr hs) fun σ H Q ⟨ρ, F, rel, q⟩ => by
    refine ⟨ρ, F, rel, (RQ.seq q).imp fun a _ q1 v1 F1 H1 g1 n1 => ?_⟩
    refine ⟨ρ, F1, rel.grow g1, (RQ.seq q1).later g1.hh fun as q2 vs F2 H2 g2 n2 => ?_⟩
    exact q2 (v1 :: vs) F2 H2 (g1.trans g2) (.cons (n1.mono g2.ff) n2)
theorem pa_nilR : PA X [] (xAR X W F0 H0 O (cs [])) := PA.of pa_nil fun σ H Q ⟨ρ, F, rel, q⟩ => q [] F H (Gr.refl rel.sfh) .nil
theorem pa_consR {e : Expr} {f : Env → Res D} (ha : PE X e (xR X W F0 H0 O f)) (hr : PA X es (xAR X W F0 H0 O (cs fs))) (hs : starEach (e :: es) X.env = (false, eval e X.env) :: starEach es X.env) : PA X (e :: es) (xAR X W F0 H0 O (cs (f :: fs))) :=
  PA.of (pa_cons ha hr hs) fun σ H Q ⟨ρ, F, rel, q⟩ => by
    refine ⟨ρ, F, rel, (RQ.seq q).imp fun a _ q1 v1 F1 H1 g1 n1 => ?_⟩
    refine ⟨ρ, F1, rel.grow g1, (RQ.seq q1).later g1.hh fun as q2 vs F2 H2 g2 n2 => ?_⟩
    exact q2 (v1 :: vs) F2 H2 (g1.trans g2) (.cons (n1.mono g2) n2)
def tTupF (t : TA) : TE := fun σ H Q => t σ H fun xs H1 => xs.length ≤ sizeLine ∧ ∀ (p : Addr) (ob : Obj), H1 p = none → ob.dict = none → Q (.ref p) (upd H1 p (.frz ob (.tup xs)))
theorem pe_tupF {x1} {t : TA} (h : PA X es t) : PE X (.Tuple es x1 pos) (tTupF t) := by
  refine ⟨fun pins s σ H Q I hq => ?_⟩
  refine wpAny_Tuple_spliced (thn (h.run pos pins s σ H _ I hq) fun us s1 ⟨xs, H1, I1, r, z, q⟩ => ⟨by rw [← r.length]; exact z, ?_⟩)
  have hf : H1 s1.heap.objs.size = none := I1.hok.fresh (Nat.le_refl _)
  refine ⟨.ref s1.heap.objs.size, upd H1 s1.heap.objs.size (.frz _ (.tup xs)), I1.laid (t' := s1.toks) (fun b u e => Heap.get?_push_of_some _ e) (Nat.le_refl _) ⟨Heap.get?_push_size _ rfl, ?_⟩, rfl, q _ _ hf rfl⟩
  exact ⟨z, us, r, ⟨_, Heap.get?_push_size _ rfl, rfl, _, rfl⟩⟩
theorem pe_tupE {x1} (h : PA X es (xA X W F0 H0 O (cs fs))) : PE X (.Tuple es x1 pos) (xE X W F0 H0 O (cTup fs)) :=
  PE.of (pe_tupF h) fun σ H Q ⟨ρ, F, rel, q⟩ => by
    refine ⟨ρ, F, rel, (RQ.seq q).imp fun as _ q1 vs F1 H1 g1 n1 => ?_⟩
    dsimp only at q1
    by_cases hl : as.length ≤ line
    · rw [if_pos hl] at q1
      refine ⟨by rw [n1.length, line_eq]; exact hl, fun p ob hp hob => ?_⟩
      have g2 := Gr.new (o := .frz ob (.tup vs)) g1.fh hp
      exact q1 _ _ _ (g1.trans g2) (.tup (.of upd_same hob) (n1.mono g2.ff))
    · rw [if_neg hl] at q1; exact False.elim q1
theorem pe_lstO (h : PA X es (xA X W F0 H0 O (cs fs))) : PE X (.List es pos) (xO X W F0 H0 O (cLst fs)) :=
  PE.of (pe_lst h) fun σ H Q ⟨ρ, F, rel, q⟩ => by
    refine ⟨ρ, F, rel, (RQ.seq q).imp fun as _ q1 vs F1 H1 g1 n1 => ?_⟩
    dsimp only at q1
    by_cases hl : as.length ≤ line
    · rw [if_pos hl] at q1
      refine ⟨by rw [n1.length, line_eq]; exact hl, fun p hp => ?_⟩
      have g2 := Gr.out (o := .lst vs) g1.fh hp
      refine q1 _ _ _ (g1.trans g2) ⟨p, vs, rfl, g1.hh.free hp, ?_, upd_same, n1⟩
      cases z : F1 p with
      | none => rfl
      | some o => have := g1.fh p o z; rw [hp] at this; cases this
    · rw [if_neg hl] at q1; exact False.elim q1
end
end Ev

set_option Elab.async false
set_option linter.all false
set_option maxRecDepth 100000
set_option maxHeartbeats 4000000
/-! The evaluator, part D: operators on data. -/
namespace Ev
open PySem L2

def small64 (i : Int) : Bool := decide (-(2 ^ 64) < i) && decide (i < 2 ^ 64)
def addD : D → D → Option D
  | .int i, .int j => some (.int (i + j))
  | .str a, .str b => if a.length + b.length ≤ line then some (.str (a ++ b)) else none
  | .list a, .list b => if a.length + b.length ≤ line then some (.list (a ++ b)) else none
  | .tuple a, .tuple b => if a.length + b.length ≤ line then some (.tuple (a ++ b)) else none
  | _, _ => none
def subD : D → D → Option D
  | .int i, .int j => some (.int (i - j))
  | _, _ => none
/-- a text so many times -/
def repS (a : Str) (n : Nat) : Str := ⟨(List.replicate n a.cps).foldl (· ++ ·) #[]⟩
def mulD : D → D → Option D
  | .int i, .int j => if small64 i || small64 j then some (.int (i * j)) else none
  | .str a, .int n => if 1 ≤ n ∧ n < 1000 ∧ 1 ≤ a.length ∧ a.length < 1000 then some (.str (repS a n.toNat)) else none
  | _, _ => none
def modD : D → D → Option D
  | .int i, .int j => if 0 < j then some (.int (i % j)) else none
  | _, _ => none
def fdivD : D → D → Option D
  | .int i, .int j => if 0 < j ∧ j.natAbs.log2 < 9000 then some (.int (i / j)) else none
  | _, _ => none
def powD : D → D → Option D
  | .int i, .int j => if 0 ≤ j ∧ j ≤ 1000000 ∧ i.natAbs < 2 ^ 64 then some (.int (i ^ j.toNat)) else none
  | _, _ => none
def shrD : D → D → Option D
  | .int i, .int j => if 0 ≤ j then some (.int (i / 2 ^ j.toNat)) else none
  | _, _ => none
def shlD : D → D → Option D
  | .int i, .int j => if 0 ≤ j ∧ j ≤ 1000000 ∧ i.natAbs < 2 ^ 64 then some (.int (i * 2 ^ j.toNat)) else none
  | _, _ => none
def andD : D → D → Option D
  | .int i, .int j => some (.int (Builtin.bitAnd i j))
  | _, _ => none
/-- == -/
def eqB : D → D → Option Bool
  | .int i, .int j => some (decide (i = j))
  | .str a, .str b => some (decide (a = b))
  | .bool a, .bool b => some (decide (a = b))
  | .none, .none => some true
  | d, e => if SeqAt.shaped d = true ∧ SeqAt.shaped e = true then some (PyData.eqv d e) else none
def eqD (d e : D) : Option D := (eqB d e).map .bool
def neD (d e : D) : Option D := (eqB d e).map fun b => .bool !b
def ltD (d e : D) : Option D := match d, e with
  | .int i, .int j => some (.bool (decide (i < j)))
  | .str a, .str b => some (.bool (decide (a.cps.toList < b.cps.toList)))
  | .tuple xs, .tuple ys => if W.alikeAll xs ys = true ∧ SeqAt.shaped (.tuple xs) = true ∧ SeqAt.shaped (.tuple ys) = true then some (.bool (W.dataLt (.tuple xs) (.tuple ys))) else none
  | _, _ => none
def leD : D → D → Option D
  | .int i, .int j => some (.bool (decide (i ≤ j)))
  | .str a, .str b => some (.bool (!decide (b.cps.toList < a.cps.toList)))
  | .tuple xs, .tuple ys => if W.alikeAll xs ys = true ∧ SeqAt.shaped (.tuple xs) = true ∧ SeqAt.shaped (.tuple ys) = true then some (.bool (!W.dataLt (.tuple ys) (.tuple xs))) else none
  | _, _ => none
def gtD : D → D → Option D
  | .int i, .int j => some (.bool (decide (j < i)))
  | .str a, .str b => some (.bool (decide (b.cps.toList < a.cps.toList)))
  | .tuple xs, .tuple ys => if W.alikeAll xs ys = true ∧ SeqAt.shaped (.tuple xs) = true ∧ SeqAt.shaped (.tuple ys) = true then some (.bool (W.dataLt (.tuple ys) (.tuple xs))) else none
  | _, _ => none
def geD : D → D → Option D
  | .int i, .int j => some (.bool (decide (j ≤ i)))
  | .str a, .str b => some (.bool (!decide (a.cps.toList < b.cps.toList)))
  | .tuple xs, .tuple ys => if W.alikeAll xs ys = true ∧ SeqAt.shaped (.tuple xs) = true ∧ SeqAt.shaped (.tuple ys) = true then some (.bool (!W.dataLt (.tuple xs) (.tuple ys))) else none
  | _, _ => none
/-- a text in a text -/
def inS (a b : Str) : Bool := !(Builtin.Str.occurrences b a 0 b.length 1).isEmpty
def keyOf : D → Option Key
  | .int i => some (.inl i)
  | .str x => some (.inr x)
  | _ => none
def getK (es : List (D × D)) (k : Key) : Option D := match es with
  | [] => none
  | (a, d) :: r => if keyOf a = some k then some d else getK r k
def inB : D → D → Option Bool
  | .str a, .str b => some (inS a b)
  | d, .list ds => if SeqAt.shaped d = true ∧ SeqAt.shaped (.list ds) = true then some (ds.any fun z => PyData.eqv z d) else none
  | d, .tuple ds => if SeqAt.shaped d = true ∧ SeqAt.shaped (.tuple ds) = true then some (ds.any fun z => PyData.eqv z d) else none
  | d, .dict es => (keyOf d).map fun k => (getK es k).isSome
  | _, _ => none
def inD (d e : D) : Option D := (inB d e).map .bool
def notInD (d e : D) : Option D := (inB d e).map fun b => .bool !b
def isD : D → D → Option D
  | .none, .none => some (.bool true)
  | .bool _, .none => some (.bool false)
  | .int _, .none => some (.bool false)
  | .str _, .none => some (.bool false)
  | .list _, .none => some (.bool false)
  | .tuple _, .none => some (.bool false)
  | .dict _, .none => some (.bool false)
  | .bool a, .bool b => some (.bool (decide (a = b)))
  | _, _ => none
def isNotD (d e : D) : Option D := match isD d e with
  | some (.bool b) => some (.bool !b)
  | _ => none

section
variable {X : Cx}
/-! ### + on lists that are read -/
def rCatL (K : PySem.W.Frag) : R2 := fun x y H Q => ∃ l b xs zs, x = .ref l ∧ y = .ref b ∧ SqL K H l xs ∧ SqL K H b zs ∧ xs.length + zs.length ≤ sizeLine ∧ ∀ p, H p = none → Q (.ref p) (upd H p (.lst (xs ++ zs)))
theorem op_catL : OpR X (binaryOp .Add) (rCatL X.K) := by
  intro pins s σ H x y v u Q I rx ry h
  obtain ⟨l, b, xs, zs, rfl, rfl, hH, hB, hz, q⟩ := h
  cases rx
  cases ry
  obtain ⟨its, r, ⟨⟨cls, dd, data, sl⟩, n, ho, hc, hdn, hdt⟩, hl⟩ := I.list hH
  obtain ⟨its2, r2, ⟨⟨cls2, dd2, data2, sl2⟩, n2, ho2, hc2, hdn2, hdt2⟩, hl2⟩ := I.list hB
  simp only at hc hdt hc2 hdt2 hdn hdn2
  subst hc hdt hc2 hdt2 hdn hdn2
  have e1 := r.length
  have e2 := r2.length
  refine concat_meets ⟨_, ho, rfl⟩ ⟨_, ho2, rfl⟩ noFill_list_add seq_list_add PySem.F.slot_list_add PySem.F.entry_list_add (PySem.F.args_list_add_2 _ _)
    (PyProof.Rows.list_addW l b its.toArray its2.toArray n n2 none none sl sl2 (by rw [List.size_toArray, List.size_toArray, ← e1, ← e2]; exact hz)) ⟨ho, ho2, ?_⟩
  have ea : its.toArray ++ its2.toArray = (its ++ its2).toArray := by simp
  rw [ea]
  exact ⟨.ref _, _, I.lnew (t' := s.toks) (r.append r2) (by rw [List.length_append]; omega), rfl, q _ I.fresh⟩
/-- t + u -/
def rCatF (K : PySem.W.Frag) : R2 := fun x y H Q => ∃ a b xs ys, x = .ref a ∧ y = .ref b ∧ SqT K H a xs ∧ SqT K H b ys ∧ xs.length + ys.length ≤ sizeLine ∧
  (xs = [] → Q (.ref b) H) ∧ (xs ≠ [] → ys = [] → Q (.ref a) H) ∧ (xs ≠ [] → ys ≠ [] → ∀ (p : Addr) (ob : Obj), H p = none → ob.dict = none → Q (.ref p) (upd H p (.frz ob (.tup (xs ++ ys)))))
theorem op_catF : OpR X (binaryOp .Add) (rCatF X.K) := by
  intro pins s σ H x y v u Q I rx ry h
  obtain ⟨a, b, xs, ys, rfl, rfl, ha, hb, hz, q0, q1, q2⟩ := h
  by_cases hx : xs = []
  · subst hx
    cases rx
    cases ry
    obtain ⟨its, r1, p1, _⟩ := I.tuple ha
    obtain ⟨its2, r2, p2, _⟩ := I.tuple hb
    cases r1
    exact cat_tup0 p1 p2 ⟨.ref b, H, I, rfl, q0 rfl⟩
  · cases rx
    cases ry
    obtain ⟨its, r1, p1, _⟩ := I.tuple ha
    obtain ⟨its2, r2, p2, _⟩ := I.tuple hb
    refine HT.cat_tup p1 p2 (fun z => hx (r1.nil_iff.mp z)) (fun z => ⟨.ref a, H, I, rfl, q1 hx (r2.nil_iff.mp z)⟩) (fun z => ?_) (by rw [← r1.length, ← r2.length]; exact hz)
    refine ⟨.ref s.heap.objs.size, _, I.laid (t' := s.toks) (o := .frz _ (.tup (xs ++ ys))) (fun b ob q => Heap.get?_push_of_some _ q) (Nat.le_refl _) ⟨Heap.get?_push_size _ rfl, ?_⟩, rfl, q2 hx (fun w => z (r2.nil_iff.mpr w)) _ _ (I.hok.fresh (Nat.le_refl _)) rfl⟩
    exact ⟨by rw [List.length_append]; exact hz, _, r1.append r2, PyProof.Rows.IsTup.new _ _⟩
def rAddX (K : PySem.W.Frag) : R2 := fun x y H Q =>
  (∃ i j, x = .int i ∧ y = .int j ∧ Q (.int (i + j)) H) ∨ (∃ i j, x = .str i ∧ y = .str j ∧ i.length + j.length ≤ sizeLine ∧ Q (.str (i ++ j)) H) ∨ rCatL K x y H Q ∨ rCatF K x y H Q
theorem op_addX : OpR X (binaryOp .Add) (rAddX X.K) := op_add.or (op_add_str.or (op_catL.or op_catF))
theorem noneOf {F H : Hp} (e : Same F H) {p : Addr} (h : H p = none) : F p = none := e.free h
theorem addD_ok : Op2 X.K (rAddX X.K) addD := by
  intro F H x y a b c Q s b1 b2 e k
  unfold addD at e
  split at e
  · cases e
    cases b1 with | dn h => cases h; cases b2 with | dn h => cases h; exact .inl ⟨_, _, rfl, rfl, k _ F H (Gr.refl s) (.int _)⟩
  · split at e
    · rename_i hl
      cases e
      cases b1 with | dn h => cases h; cases b2 with | dn h => cases h; exact .inr (.inl ⟨_, _, rfl, rfl, by rw [line_eq]; exact hl, k _ F H (Gr.refl s) (.str _)⟩)
    · cases e
  · split at e
    · rename_i hl
      cases e
      obtain ⟨p1, xs, rfl, q1, n1⟩ := b1.list s
      obtain ⟨p2, ys, rfl, q2, n2⟩ := b2.list s
      refine .inr (.inr (.inl ⟨p1, p2, xs, ys, rfl, rfl, q1, q2, by rw [n1.length, n2.length, line_eq]; exact hl, fun p hp => ?_⟩))
      exact k _ F _ (Gr.out s hp) ⟨p, _, rfl, hp, noneOf s hp, upd_same, n1.append n2⟩
    · cases e
  · split at e
    · rename_i hl
      cases e
      obtain ⟨p1, xs, rfl, q1, n1⟩ := b1.tupN
      obtain ⟨p2, ys, rfl, q2, n2⟩ := b2.tupN
      refine .inr (.inr (.inr ⟨p1, p2, xs, ys, rfl, rfl, seqT_same s q1.t, seqT_same s q2.t, by rw [n1.length, n2.length, line_eq]; exact hl, fun hx => ?_, fun hx hy => ?_, fun hx hy p ob hp hob => ?_⟩))
      · subst hx
        cases n1
        exact k _ F H (Gr.refl s) (.tup q2 n2)
      · subst hy
        cases n2
        rw [List.append_nil] at k
        exact k _ F H (Gr.refl s) (.tup q1 n1)
      · have g := Gr.new (o := .frz ob (.tup (xs ++ ys))) s hp
        exact k _ _ _ g (.tup (.of upd_same hob) ((n1.append n2).mono g.ff))
    · cases e
  · cases e
theorem subD_ok : Op2 X.K (rI0 fun i j => .int (i - j)) subD := by
  intro F H x y a b c Q s b1 b2 e k
  unfold subD at e
  split at e
  · cases e
    cases b1 with | dn h => cases h; cases b2 with | dn h => cases h; exact ⟨_, _, rfl, rfl, k _ F H (Gr.refl s) (.int _)⟩
  · cases e
/-! ### * -/
theorem rep_size (c : Array Nat) : ∀ (n : Nat) (acc : Array Nat), ((List.replicate n c).foldl (· ++ ·) acc).size = acc.size + n * c.size
  | 0, acc => by simp
  | n + 1, acc => by rw [List.replicate_succ, List.foldl_cons, rep_size c n, Array.size_append, Nat.succ_mul]; omega
theorem repS_length (a : Str) (n : Nat) : (repS a n).length = n * a.length := by
  show ((List.replicate n a.cps).foldl (· ++ ·) #[]).size = n * a.cps.size
  rw [rep_size]; simp
def rMulS : R2 := fun x y H Q => ∃ a n, x = .str a ∧ y = .int n ∧ (1 ≤ n ∧ n < 1000 ∧ 1 ≤ a.length ∧ a.length < 1000) ∧ Q (.str (repS a n.toNat)) H
theorem op_mulS : OpR X (binaryOp .Mult) rMulS := by
  intro pins s σ H x y v u Q I rx ry h
  obtain ⟨a, n, rfl, rfl, ⟨h1, h2, h3, h4⟩, q⟩ := h
  obtain ⟨t, rfl⟩ := rx
  obtain ⟨t', rfl⟩ := ry
  refine PySem.P.mul_str ?_ (fun _ _ => ?_) (fun _ _ => ?_) ?_
  · rw [decide_eq_false (by omega), decide_eq_false (by omega)]; rfl
  · have hn : n ≤ 1000 := by omega
    have : (2 ^ 63 - 1) / (1000 : Int) ≤ (2 ^ 63 - 1) / n := by
      refine (Int.le_ediv_iff_mul_le (by omega)).mpr ?_
      have : (2 ^ 63 - 1) / (1000 : Int) = 9223372036854775 := by decide
      rw [this]
      have : (9223372036854775 : Int) * n ≤ 9223372036854775 * 1000 := Int.mul_le_mul_of_nonneg_left hn (by decide)
      omega
    have h1000 : (2 ^ 63 - 1) / (1000 : Int) = 9223372036854775 := by decide
    omega
  · have : a.length * n.toNat ≤ 1000 * 1000 := Nat.mul_le_mul (by omega) (by omega)
    have hs := line_eq
    have hl : line = 16777216 := rfl
    unfold PySem.Builtin.Str.tooLong
    simp only [decide_eq_false_iff_not, Nat.not_lt]
    omega
  · rw [if_neg (by omega)]
    by_cases h1' : n = 1
    · subst h1'
      rw [if_pos (by simp)]
      have e : repS a (1 : Int).toNat = a := by
        unfold repS
        have : (1 : Int).toNat = 1 := rfl
        rw [this]
        simp
      rw [e] at q
      exact ⟨.str a, H, I, ⟨_, rfl⟩, q⟩
    · rw [if_neg (by simp; omega)]
      exact ⟨by
        show (repS a n.toNat).length ≤ sizeLine
        rw [repS_length]
        have : n.toNat * a.length ≤ 1000 * 1000 := Nat.mul_le_mul (by omega) (by omega)
        have hs := line_eq
        have hl : line = 16777216 := rfl
        omega, .str (repS a n.toNat), H, I.tok _, ⟨_, rfl⟩, q⟩


def rMulX : R2 := fun x y H Q => (∃ i j, x = .int i ∧ y = .int j ∧ CMul i j ∧ Q (.int (i * j)) H) ∨ rMulS x y H Q
theorem op_mulX : OpR X (binaryOp .Mult) rMulX := op_mul.or op_mulS
/-- both scalars -/
theorem Br.int {K : PySem.W.Frag} {F H : Hp} {v : V} {i : Int} (h : Br K F H v (.int i)) : v = .int i := by
  cases h with | dn h => cases h; rfl
theorem Br.str {K : PySem.W.Frag} {F H : Hp} {v : V} {i : Str} (h : Br K F H v (.str i)) : v = .str i := by
  cases h with | dn h => cases h; rfl
theorem Br.bool {K : PySem.W.Frag} {F H : Hp} {v : V} {i : Bool} (h : Br K F H v (.bool i)) : v = .bl i := by
  cases h with | dn h => cases h; rfl
theorem Br.none {K : PySem.W.Frag} {F H : Hp} {v : V} (h : Br K F H v .none) : v = .non := by
  cases h with | dn h => cases h; rfl
theorem mulD_ok : Op2 X.K rMulX mulD := by
  intro F H x y a b c Q s b1 b2 e k
  unfold mulD at e
  split at e
  · split at e
    · rename_i hc
      cases e
      cases b1.int; cases b2.int
      refine .inl ⟨_, _, rfl, rfl, ?_, k _ F H (Gr.refl s) (.int _)⟩
      simp only [small64, Bool.or_eq_true, Bool.and_eq_true, decide_eq_true_eq] at hc
      exact hc
    · cases e
  · split at e
    · rename_i hc
      cases e
      cases b1.str; cases b2.int
      exact .inr ⟨_, _, rfl, rfl, hc, k _ F H (Gr.refl s) (.str _)⟩
    · cases e
  · cases e
theorem modD_ok : Op2 X.K (rI (fun _ j => 0 < j) fun i j => .int (i % j)) modD := by
  intro F H x y a b c Q s b1 b2 e k
  unfold modD at e
  split at e
  · split at e
    · rename_i hc
      cases e
      cases b1.int; cases b2.int
      exact ⟨_, _, rfl, rfl, hc, k _ F H (Gr.refl s) (.int _)⟩
    · cases e
  · cases e
theorem fdivD_ok : Op2 X.K (rI CDivW fun i j => .int (i / j)) fdivD := by
  intro F H x y a b c Q s b1 b2 e k
  unfold fdivD at e
  split at e
  · split at e
    · rename_i hc
      cases e
      cases b1.int; cases b2.int
      exact ⟨_, _, rfl, rfl, hc, k _ F H (Gr.refl s) (.int _)⟩
    · cases e
  · cases e
theorem powD_ok : Op2 X.K (rI CPow fun i j => .int (i ^ j.toNat)) powD := by
  intro F H x y a b c Q s b1 b2 e k
  unfold powD at e
  split at e
  · split at e
    · rename_i hc
      cases e
      cases b1.int; cases b2.int
      exact ⟨_, _, rfl, rfl, hc, k _ F H (Gr.refl s) (.int _)⟩
    · cases e
  · cases e
theorem shrD_ok : Op2 X.K (rI (fun _ j => 0 ≤ j) fun i j => .int (i / 2 ^ j.toNat)) shrD := by
  intro F H x y a b c Q s b1 b2 e k
  unfold shrD at e
  split at e
  · split at e
    · rename_i hc
      cases e
      cases b1.int; cases b2.int
      exact ⟨_, _, rfl, rfl, hc, k _ F H (Gr.refl s) (.int _)⟩
    · cases e
  · cases e
theorem shlD_ok : Op2 X.K (rI CPow fun i j => .int (i * 2 ^ j.toNat)) shlD := by
  intro F H x y a b c Q s b1 b2 e k
  unfold shlD at e
  split at e
  · split at e
    · rename_i hc
      cases e
      cases b1.int; cases b2.int
      exact ⟨_, _, rfl, rfl, hc, k _ F H (Gr.refl s) (.int _)⟩
    · cases e
  · cases e
theorem andD_ok : Op2 X.K (rI0 fun i j => .int (Builtin.bitAnd i j)) andD := by
  intro F H x y a b c Q s b1 b2 e k
  unfold andD at e
  split at e
  · cases e
    cases b1.int; cases b2.int
    exact ⟨_, _, rfl, rfl, k _ F H (Gr.refl s) (.int _)⟩
  · cases e
/-! ### == != < .. -/
def rEqX (K : PySem.W.Frag) : R2 := fun x y H Q => rEq x y H Q ∨ rEqD K x y H Q
def rNeX (K : PySem.W.Frag) : R2 := fun x y H Q => rNe x y H Q ∨ rNeD K x y H Q
theorem op_eqX (hu : X.A.units + 65 < cLine) : OpR X (compareOp .Eq) (rEqX X.K) := op_eq.or (op_eqD (by omega))
theorem op_neX (hu : X.A.units + 65 < cLine) : OpR X (compareOp .NotEq) (rNeX X.K) := op_ne.or (op_neD (by omega))
theorem eqB_ok {K : PySem.W.Frag} {F H : Hp} {x y : V} {a b : D} {t : Bool} (s : Same F H) (b1 : Br K F H x a) (b2 : Br K F H y b) (e : eqB a b = some t) :
    (scal x y = true ∧ t = decide (x = y)) ∨ ∃ d e, Dp K H x d ∧ Dp K H y e ∧ SeqAt.shaped d = true ∧ SeqAt.shaped e = true ∧ t = PyData.eqv d e := by
  unfold eqB at e
  split at e
  · cases e; cases b1.int; cases b2.int
    exact .inl ⟨rfl, by simp⟩
  · cases e; cases b1.str; cases b2.str
    exact .inl ⟨rfl, by simp⟩
  · cases e; cases b1.bool; cases b2.bool
    exact .inl ⟨rfl, by simp⟩
  · cases e; cases b1.none; cases b2.none
    exact .inl ⟨rfl, by simp⟩
  · split at e
    · rename_i hc
      cases e
      exact .inr ⟨_, _, (b1.full s).dp _ _ (SeqAt.canLay_of_shaped hc.1), (b2.full s).dp _ _ (SeqAt.canLay_of_shaped hc.2), hc.1, hc.2, rfl⟩
    · cases e
theorem eqD_ok : Op2 X.K (rEqX X.K) eqD := by
  intro F H x y a b c Q s b1 b2 e k
  unfold eqD at e
  cases q : eqB a b with
  | none => rw [q] at e; cases e
  | some t =>
    rw [q] at e; cases e
    have kk := k (.bl t) F H (Gr.refl s) (.bl t)
    rcases eqB_ok s b1 b2 q with ⟨h1, h2⟩ | ⟨d, e, h1, h2, h3, h4, h5⟩
    · exact .inl ⟨h1, by rw [← h2]; exact kk⟩
    · exact .inr ⟨d, e, h1, h2, h3, h4, by rw [← h5]; exact kk⟩
theorem neD_ok : Op2 X.K (rNeX X.K) neD := by
  intro F H x y a b c Q s b1 b2 e k
  unfold neD at e
  cases q : eqB a b with
  | none => rw [q] at e; cases e
  | some t =>
    rw [q] at e; cases e
    have kk := k (.bl !t) F H (Gr.refl s) (.bl !t)
    rcases eqB_ok s b1 b2 q with ⟨h1, h2⟩ | ⟨d, e, h1, h2, h3, h4, h5⟩
    · exact .inl ⟨h1, by rw [← h2]; exact kk⟩
    · exact .inr ⟨d, e, h1, h2, h3, h4, by rw [← h5]; exact kk⟩
/-- tuples of alike places -/
def rLtTD (K : PySem.W.Frag) : R2 := fun x y H Q => ∃ xs ys, Dp K H x (.tuple xs) ∧ Dp K H y (.tuple ys) ∧ W.alikeAll xs ys = true ∧ SeqAt.shaped (.tuple xs) = true ∧ Q (.bl (W.dataLt (.tuple xs) (.tuple ys))) H
theorem op_ltTD (hu : X.A.units + 65 < cLine) : OpR X (compareOp .Lt) (rLtTD X.K) := by
  intro pins s σ H x y v u Q I rx ry h
  obtain ⟨xs, ys, h1, h2, h3, h4, q⟩ := h
  obtain ⟨as, r1⟩ := Dp.reads I _ x v h1 rx
  obtain ⟨bs, r2⟩ := Dp.reads I _ y u h2 ry
  have hd := SeqAt.depth_of_shaped h4
  exact W.rcLt_alike (.tuple xs) (.tuple ys) X.A s v u as bs r1 r2 (by simpa [W.alike] using h3) (fun z => nomatch z) (Nat.lt_of_le_of_lt (Nat.add_le_add_left (Nat.le_trans (Nat.min_le_left _ _) hd) _) (by omega)) X.prog X.w X.xe _ ⟨.bl _, H, I, rfl, q⟩
def rLtX (K : PySem.W.Frag) : R2 := fun x y H Q => (∃ i j, x = .int i ∧ y = .int j ∧ Q (.bl (decide (i < j))) H) ∨ (∃ i j, x = .str i ∧ y = .str j ∧ Q (.bl (decide (i.cps.toList < j.cps.toList))) H) ∨ rLtTD K x y H Q
theorem op_ltX (hu : X.A.units + 65 < cLine) : OpR X (compareOp .Lt) (rLtX X.K) := op_lt.or (op_lt_str.or (op_ltTD hu))
theorem ltD_ok : Op2 X.K (rLtX X.K) ltD := by
  intro F H x y a b c Q s b1 b2 e k
  unfold ltD at e
  split at e
  · cases e; cases b1.int; cases b2.int
    exact .inl ⟨_, _, rfl, rfl, k _ F H (Gr.refl s) (.bl _)⟩
  · cases e; cases b1.str; cases b2.str
    exact .inr (.inl ⟨_, _, rfl, rfl, k _ F H (Gr.refl s) (.bl _)⟩)
  · split at e
    · rename_i hc
      cases e
      exact .inr (.inr ⟨_, _, (b1.full s).dp _ _ (SeqAt.canLay_of_shaped hc.2.1), (b2.full s).dp _ _ (SeqAt.canLay_of_shaped hc.2.2), hc.1, hc.2.1, k _ F H (Gr.refl s) (.bl _)⟩)
    · cases e
  · cases e
def rTD (K : PySem.W.Frag) (f : List D → List D → Bool) : R2 := fun x y H Q => ∃ xs ys, Dp K H x (.tuple xs) ∧ Dp K H y (.tuple ys) ∧ W.alikeAll xs ys = true ∧ SeqAt.shaped (.tuple xs) = true ∧ Q (.bl (f xs ys)) H
theorem op_TD {o : CmpOp} {f : List D → List D → Bool} (hu : X.A.units + 65 < cLine) (hc : ∀ v u, compareOp o v u = richCompare o v u) (ho : ∀ (da db : PyData) (A : Around) (s : Shared) (a b : Value) (as bs : List Addr), Reads s.heap a da as → Reads s.heap b db bs → W.alike da db = true → da ≠ .none → A.units + min da.depth db.depth < cLine → ∀ xs ys, da = .tuple xs → db = .tuple ys → SeqAt.RcOp o A s a b (f xs ys)) : OpR X (compareOp o) (rTD X.K f) := by
  intro pins s σ H x y v u Q I rx ry h
  obtain ⟨xs, ys, h1, h2, h3, h4, q⟩ := h
  obtain ⟨as, r1⟩ := Dp.reads I _ x v h1 rx
  obtain ⟨bs, r2⟩ := Dp.reads I _ y u h2 ry
  have hd := SeqAt.depth_of_shaped h4
  have z := ho (.tuple xs) (.tuple ys) X.A s v u as bs r1 r2 (by simpa [W.alike] using h3) (fun z => nomatch z) (Nat.lt_of_le_of_lt (Nat.add_le_add_left (Nat.le_trans (Nat.min_le_left _ _) hd) _) (by omega)) _ _ rfl rfl
  rw [hc]
  exact z X.prog X.w X.xe (EP X pins σ Q) ⟨.bl _, H, I, rfl, q⟩
def rIS (f : Int → Int → Bool) (g : Str → Str → Bool) (K : PySem.W.Frag) (h : List D → List D → Bool) : R2 := fun x y H Q => (∃ i j, x = .int i ∧ y = .int j ∧ Q (.bl (f i j)) H) ∨ (∃ i j, x = .str i ∧ y = .str j ∧ Q (.bl (g i j)) H) ∨ rTD K h x y H Q
def rLe (K : PySem.W.Frag) : R2 := rIS (fun i j => decide (i ≤ j)) (fun i j => !decide (j.cps.toList < i.cps.toList)) K fun xs ys => !W.dataLt (.tuple ys) (.tuple xs)
def rGt (K : PySem.W.Frag) : R2 := rIS (fun i j => decide (j < i)) (fun i j => decide (j.cps.toList < i.cps.toList)) K fun xs ys => W.dataLt (.tuple ys) (.tuple xs)
def rGe (K : PySem.W.Frag) : R2 := rIS (fun i j => decide (j ≤ i)) (fun i j => !decide (i.cps.toList < j.cps.toList)) K fun xs ys => !W.dataLt (.tuple xs) (.tuple ys)
theorem op_leX (hu : X.A.units + 65 < cLine) : OpR X (compareOp .LtE) (rLe X.K) := op_le.or (op_le_str.or (op_TD hu (fun _ _ => rfl) fun da db A s a b as bs r1 r2 h1 h2 h3 xs ys e1 e2 => by subst e1 e2; exact W.rcLe_alike _ _ A s a b as bs r1 r2 h1 h2 h3))
theorem op_gtX (hu : X.A.units + 65 < cLine) : OpR X (compareOp .Gt) (rGt X.K) := op_gt.or (op_gt_str.or (op_TD hu (fun _ _ => rfl) fun da db A s a b as bs r1 r2 h1 h2 h3 xs ys e1 e2 => by subst e1 e2; exact W.rcGt_alike _ _ A s a b as bs r1 r2 h1 h2 h3))
theorem op_geX (hu : X.A.units + 65 < cLine) : OpR X (compareOp .GtE) (rGe X.K) := op_ge.or (op_ge_str.or (op_TD hu (fun _ _ => rfl) fun da db A s a b as bs r1 r2 h1 h2 h3 xs ys e1 e2 => by subst e1 e2; exact W.rcGe_alike _ _ A s a b as bs r1 r2 h1 h2 h3))
theorem leD_ok : Op2 X.K (rLe X.K) leD := by
  intro F H x y a b c Q s b1 b2 e k
  unfold leD at e
  split at e
  · cases e; cases b1.int; cases b2.int; exact .inl ⟨_, _, rfl, rfl, k _ F H (Gr.refl s) (.bl _)⟩
  · cases e; cases b1.str; cases b2.str; exact .inr (.inl ⟨_, _, rfl, rfl, k _ F H (Gr.refl s) (.bl _)⟩)
  · split at e
    · rename_i hc
      cases e
      exact .inr (.inr ⟨_, _, (b1.full s).dp _ _ (SeqAt.canLay_of_shaped hc.2.1), (b2.full s).dp _ _ (SeqAt.canLay_of_shaped hc.2.2), hc.1, hc.2.1, k _ F H (Gr.refl s) (.bl _)⟩)
    · cases e
  · cases e
theorem gtD_ok : Op2 X.K (rGt X.K) gtD := by
  intro F H x y a b c Q s b1 b2 e k
  unfold gtD at e
  split at e
  · cases e; cases b1.int; cases b2.int; exact .inl ⟨_, _, rfl, rfl, k _ F H (Gr.refl s) (.bl _)⟩
  · cases e; cases b1.str; cases b2.str; exact .inr (.inl ⟨_, _, rfl, rfl, k _ F H (Gr.refl s) (.bl _)⟩)
  · split at e
    · rename_i hc
      cases e
      exact .inr (.inr ⟨_, _, (b1.full s).dp _ _ (SeqAt.canLay_of_shaped hc.2.1), (b2.full s).dp _ _ (SeqAt.canLay_of_shaped hc.2.2), hc.1, hc.2.1, k _ F H (Gr.refl s) (.bl _)⟩)
    · cases e
  · cases e
theorem geD_ok : Op2 X.K (rGe X.K) geD := by
  intro F H x y a b c Q s b1 b2 e k
  unfold geD at e
  split at e
  · cases e; cases b1.int; cases b2.int; exact .inl ⟨_, _, rfl, rfl, k _ F H (Gr.refl s) (.bl _)⟩
  · cases e; cases b1.str; cases b2.str; exact .inr (.inl ⟨_, _, rfl, rfl, k _ F H (Gr.refl s) (.bl _)⟩)
  · split at e
    · rename_i hc
      cases e
      exact .inr (.inr ⟨_, _, (b1.full s).dp _ _ (SeqAt.canLay_of_shaped hc.2.1), (b2.full s).dp _ _ (SeqAt.canLay_of_shaped hc.2.2), hc.1, hc.2.1, k _ F H (Gr.refl s) (.bl _)⟩)
    · cases e
  · cases e
/-! ### in, is -/
def rInT (K : PySem.W.Frag) : R2 := fun x y H Q => ∃ d ds, Dp K H x d ∧ Dp K H y (.tuple ds) ∧ SeqAt.shaped d = true ∧ SeqAt.shaped (.tuple ds) = true ∧ Q (.bl (ds.any fun z => PyData.eqv z d)) H
def rNotInT (K : PySem.W.Frag) : R2 := fun x y H Q => ∃ d ds, Dp K H x d ∧ Dp K H y (.tuple ds) ∧ SeqAt.shaped d = true ∧ SeqAt.shaped (.tuple ds) = true ∧ Q (.bl (!ds.any fun z => PyData.eqv z d)) H
theorem op_inT (hu : X.A.units + 65 < cLine) : OpR X (compareOp .In) (rInT X.K) := by
  intro pins s σ H x y v u Q I rx ry h
  obtain ⟨d, ds, hd, he, sd, se, q⟩ := h
  obtain ⟨as, r1⟩ := Dp.reads I d x v hd rx
  obtain ⟨bs, r2⟩ := Dp.reads I (.tuple ds) y u he ry
  exact SeqAt.in_tuple_reads r2 r1 (SeqAt.canLay_of_shaped se) (SeqAt.canLay_of_shaped sd) (PyProof.Rows.room_in_shaped sd hu) ⟨.bl _, H, I, rfl, q⟩
theorem op_notInT (hu : X.A.units + 65 < cLine) : OpR X (compareOp .NotIn) (rNotInT X.K) := by
  intro pins s σ H x y v u Q I rx ry h
  obtain ⟨d, ds, hd, he, sd, se, q⟩ := h
  obtain ⟨as, r1⟩ := Dp.reads I d x v hd rx
  obtain ⟨bs, r2⟩ := Dp.reads I (.tuple ds) y u he ry
  exact SeqAt.notIn_tuple_reads r2 r1 (SeqAt.canLay_of_shaped se) (SeqAt.canLay_of_shaped sd) (PyProof.Rows.room_in_shaped sd hu) ⟨.bl _, H, I, rfl, q⟩
def rInDk : R2 := fun x y H Q => ∃ a o, y = .ref a ∧ DGet H a x o ∧ Q (.bl o.isSome) H
def rNotInDk : R2 := fun x y H Q => ∃ a o, y = .ref a ∧ DGet H a x o ∧ Q (.bl (!o.isSome)) H
theorem op_inDk (hu : X.A.units + 1 < cLine) : OpR X (compareOp .In) rInDk := by
  intro pins s σ H x y v u Q I rx ry h
  obtain ⟨a, o, rfl, g, q⟩ := h
  cases ry
  exact d_in hu I g rx fun s' I' => ⟨.bl _, H, I', rfl, q⟩
theorem op_notInDk (hu : X.A.units + 1 < cLine) : OpR X (compareOp .NotIn) rNotInDk := by
  intro pins s σ H x y v u Q I rx ry h
  obtain ⟨a, o, rfl, g, q⟩ := h
  cases ry
  exact d_notIn hu I g rx fun s' I' => ⟨.bl _, H, I', rfl, q⟩
theorem keyOf_kD (k : Key) : keyOf (kD k) = some k := by cases k <;> rfl
theorem kV_dn {K : PySem.W.Frag} {F : Hp} {v : V} {d : D} {k : Key} (h : Dn K F v d) (e : keyOf d = some k) : v = kV k := by
  cases d <;> simp [keyOf] at e
  · subst e; cases h; rfl
  · subst e; cases h; rfl
theorem getK_ok {K : PySem.W.Frag} {F : Hp} (k : Key) : ∀ {es : List (D × D)} {ks : List (Key × V)}, DnK K F ks es → (∃ v d, valV ks k = some v ∧ getK es k = some d ∧ Dn K F v d) ∨ (valV ks k = none ∧ getK es k = none)
  | [], _, h => by cases h; exact .inr ⟨rfl, rfl⟩
  | (a, d) :: es, _, h => by
    cases h with
    | @cons k' v ks d es h1 h2 =>
      by_cases e : k' = k
      · subst e
        exact .inl ⟨v, d, valV_pos rfl, by simp [getK, keyOf_kD], h1⟩
      · have e' : ¬ keyOf (kD k') = some k := by rw [keyOf_kD]; simpa using e
        rcases getK_ok k h2 with ⟨v', d', q1, q2, q3⟩ | ⟨q1, q2⟩
        · exact .inl ⟨v', d', by rw [valV_neg e]; exact q1, by simp only [getK]; rw [if_neg e']; exact q2, q3⟩
        · exact .inr ⟨by rw [valV_neg e]; exact q1, by simp only [getK]; rw [if_neg e']; exact q2⟩
def rInX (K : PySem.W.Frag) : R2 := fun x y H Q => (∃ i j, x = .str i ∧ y = .str j ∧ Q (.bl (!(Builtin.Str.occurrences j i 0 j.length 1).isEmpty)) H) ∨ rInD K x y H Q ∨ rInT K x y H Q ∨ rInDk x y H Q
def rNotInX (K : PySem.W.Frag) : R2 := fun x y H Q => (∃ i j, x = .str i ∧ y = .str j ∧ Q (.bl (!(!(Builtin.Str.occurrences j i 0 j.length 1).isEmpty))) H) ∨ rNotInD K x y H Q ∨ rNotInT K x y H Q ∨ rNotInDk x y H Q
theorem op_inX (hu : X.A.units + 65 < cLine) : OpR X (compareOp .In) (rInX X.K) := op_in_str.or ((op_inD hu).or ((op_inT hu).or (op_inDk (by omega))))
theorem op_notInX (hu : X.A.units + 65 < cLine) : OpR X (compareOp .NotIn) (rNotInX X.K) := op_notin_str.or ((op_notInD hu).or ((op_notInT hu).or (op_notInDk (by omega))))
theorem inD_ok : Op2 X.K (rInX X.K) inD := by
  intro F H x y a b c Q s b1 b2 e k
  unfold inD at e
  cases q : inB a b with
  | none => rw [q] at e; cases e
  | some t =>
    rw [q] at e; cases e
    have kk := k (.bl t) F H (Gr.refl s) (.bl t)
    unfold inB at q
    split at q
    · cases q; cases b1.str; cases b2.str
      exact .inl ⟨_, _, rfl, rfl, kk⟩
    · split at q
      · rename_i hc
        cases q
        exact .inr (.inl ⟨_, _, (b1.full s).dp _ _ (SeqAt.canLay_of_shaped hc.1), (b2.full s).dp _ _ (SeqAt.canLay_of_shaped hc.2), hc.1, hc.2, kk⟩)
      · cases q
    · split at q
      · rename_i hc
        cases q
        exact .inr (.inr (.inl ⟨_, _, (b1.full s).dp _ _ (SeqAt.canLay_of_shaped hc.1), (b2.full s).dp _ _ (SeqAt.canLay_of_shaped hc.2), hc.1, hc.2, kk⟩))
      · cases q
    · obtain ⟨p, ks, rfl, hp, hk⟩ := b2.dict s
      cases e1 : keyOf a with
      | none => rw [e1] at q; cases q
      | some k0 =>
        rw [e1] at q; cases q
        have hx := kV_dn (b1.full s) e1
        subst hx
        refine .inr (.inr (.inr ⟨p, _, rfl, DGet.k hp, ?_⟩))
        rcases getK_ok k0 hk with ⟨v, d, q1, q2, q3⟩ | ⟨q1, q2⟩
        · dsimp only at kk; rw [q1]; rw [q2] at kk; exact kk
        · dsimp only at kk; rw [q1]; rw [q2] at kk; exact kk
    · cases q
theorem notInD_ok : Op2 X.K (rNotInX X.K) notInD := by
  intro F H x y a b c Q s b1 b2 e k
  unfold notInD at e
  cases q : inB a b with
  | none => rw [q] at e; cases e
  | some t =>
    rw [q] at e; cases e
    have kk := k (.bl !t) F H (Gr.refl s) (.bl !t)
    unfold inB at q
    split at q
    · cases q; cases b1.str; cases b2.str
      exact .inl ⟨_, _, rfl, rfl, kk⟩
    · split at q
      · rename_i hc
        cases q
        exact .inr (.inl ⟨_, _, (b1.full s).dp _ _ (SeqAt.canLay_of_shaped hc.1), (b2.full s).dp _ _ (SeqAt.canLay_of_shaped hc.2), hc.1, hc.2, kk⟩)
      · cases q
    · split at q
      · rename_i hc
        cases q
        exact .inr (.inr (.inl ⟨_, _, (b1.full s).dp _ _ (SeqAt.canLay_of_shaped hc.1), (b2.full s).dp _ _ (SeqAt.canLay_of_shaped hc.2), hc.1, hc.2, kk⟩))
      · cases q
    · obtain ⟨p, ks, rfl, hp, hk⟩ := b2.dict s
      cases e1 : keyOf a with
      | none => rw [e1] at q; cases q
      | some k0 =>
        rw [e1] at q; cases q
        have hx := kV_dn (b1.full s) e1
        subst hx
        refine .inr (.inr (.inr ⟨p, _, rfl, DGet.k hp, ?_⟩))
        rcases getK_ok k0 hk with ⟨v, d, q1, q2, q3⟩ | ⟨q1, q2⟩
        · dsimp only at kk; rw [q1]; rw [q2] at kk; exact kk
        · dsimp only at kk; rw [q1]; rw [q2] at kk; exact kk
    · cases q
def rIsX : R2 := fun x y H Q => (y = .non ∧ Q (.bl (decide (x = .non))) H) ∨ ∃ a b, x = .bl a ∧ y = .bl b ∧ Q (.bl (decide (a = b))) H
def rNotX : R2 := fun x y H Q => (y = .non ∧ Q (.bl (!decide (x = .non))) H) ∨ ∃ a b, x = .bl a ∧ y = .bl b ∧ Q (.bl (!decide (a = b))) H
theorem op_isX : OpR X (compareOp .Is) rIsX := op_isN.or op_is_bl
theorem op_notX : OpR X (compareOp .IsNot) rNotX := op_notN.or op_isnot_bl
theorem isD_ok0 {K : PySem.W.Frag} {F H : Hp} {x y : V} {a b c : D} (s : Same F H) (b1 : Br K F H x a) (b2 : Br K F H y b) (e : isD a b = some c) : (y = .non ∧ c = .bool (decide (x = .non))) ∨ ∃ a b, x = .bl a ∧ y = .bl b ∧ c = .bool (decide (a = b)) := by
  have hx := b1.full s
  unfold isD at e
  split at e <;> first | (cases e; cases b2.none; cases hx; exact .inl ⟨rfl, by simp⟩) | (cases e; cases b1.bool; cases b2.bool; exact .inr ⟨_, _, rfl, rfl, rfl⟩) | cases e
theorem isD_ok : Op2 X.K rIsX isD := by
  intro F H x y a b c Q s b1 b2 e k
  rcases isD_ok0 s b1 b2 e with ⟨h1, h2⟩ | ⟨p, q, h1, h2, h3⟩
  · subst h2
    exact .inl ⟨h1, k _ F H (Gr.refl s) (.bl _)⟩
  · subst h3
    exact .inr ⟨p, q, h1, h2, k _ F H (Gr.refl s) (.bl _)⟩
theorem isNotD_ok : Op2 X.K rNotX isNotD := by
  intro F H x y a b c Q s b1 b2 e k
  unfold isNotD at e
  cases q : isD a b with
  | none => rw [q] at e; cases e
  | some d =>
    rcases isD_ok0 s b1 b2 q with ⟨h1, h2⟩ | ⟨p, q', h1, h2, h3⟩
    · subst h2
      rw [q] at e
      cases e
      exact .inl ⟨h1, k _ F H (Gr.refl s) (.bl _)⟩
    · subst h3
      rw [q] at e
      cases e
      exact .inr ⟨p, q', h1, h2, k _ F H (Gr.refl s) (.bl _)⟩
end
end Ev

set_option Elab.async false
set_option linter.all false
set_option maxRecDepth 100000
set_option maxHeartbeats 4000000
/-! The evaluator, part D2: the greater and the lesser of two texts. -/
namespace Ev
open PySem L2
def twoV (a b : Str) (t u : Tok) : Array Value := #[.str a t, .str b u]
def twoS (a b : Str) (i : Nat) : Str := if i = 0 then a else b
theorem two_at {a b : Str} {t u : Tok} {i : Nat} {v : Value} (h : (twoV a b t u)[i]? = some v) : ∃ w, v = .str (twoS a b i) w := by
  match i, h with
  | 0, h => cases h; exact ⟨t, rfl⟩
  | 1, h => cases h; exact ⟨u, rfl⟩
  | i + 2, h => simp [twoV] at h
theorem cmp_gt {prog : Program} {w : World} {A : Around} {P : Nat → Value → Prop} (val : Nat → Str) (hval : ∀ i v, P i v → ∃ t, v = .str (val i) t) : CmpOf prog w A .Gt P (fun i j => decide ((val j).cps.toList < (val i).cps.toList)) := fun i j vi vj s Q E hi hj h => by
  obtain ⟨t, rfl⟩ := hval i vi hi
  obtain ⟨u, rfl⟩ := hval j vj hj
  exact richCompare_gives (op := .Gt) (typeIs_str s _ t) (typeIs_str s _ u) F.slot_str_gt F.entry_str_gt (F.args_str_gt_2 _ _) (gives_str_gt _ _ t u) (fun x => nomatch x) h
theorem cmp_lt {prog : Program} {w : World} {A : Around} {P : Nat → Value → Prop} (val : Nat → Str) (hval : ∀ i v, P i v → ∃ t, v = .str (val i) t) : CmpOf prog w A .Lt P (fun i j => decide ((val i).cps.toList < (val j).cps.toList)) := fun i j vi vj s Q E hi hj h => by
  obtain ⟨t, rfl⟩ := hval i vi hi
  obtain ⟨u, rfl⟩ := hval j vj hj
  exact richCompare_gives (op := .Lt) (typeIs_str s _ t) (typeIs_str s _ u) F.slot_str_lt F.entry_str_lt (F.args_str_lt_2 _ _) (gives_str_lt _ _ t u) (fun x => nomatch x) h
section
variable {prog : Program} {w : World} {A : Around} {E : Value → Shared → Prop} {s : Shared}
theorem two_walk {op : CmpOp} {a b : Str} {t u : Tok} {bt : Nat → Nat → Bool} {Q : Value → Shared → Prop} (hh : A.handled = none) (hc : CmpOf prog w A op (fun i v => (twoV a b t u)[i]? = some v) bt)
    (h : ∀ h' tk, (∀ c o, s.heap.get? c = some o → h'.get? c = some o) → Q (if bt 1 0 = true then .str b u else .str a t) { s with heap := h', toks := tk }) :
    wpAny (model prog w) A (pyIter (.ref s.heap.objs.size)) (fun it s₂ => ∃ I fp wr n P St bt, it = .ref I ∧ Walks prog w A I fp wr n P St ∧ St 0 s₂.heap ∧ (∀ b ∈ fp, b < s₂.heap.objs.size) ∧ 0 < n ∧ CmpOf prog w A op P bt ∧
      ∀ v h' tk, P (argBest bt (n - 1)) v → (∀ b o, b ∉ wr → s₂.heap.get? b = some o → h'.get? b = some o) → Q v { s₂ with heap := h', toks := tk }) E
      { s with heap := s.heap.push { cls := .type "tuple", data := .seq #[.str a t, .str b u] } } := by
  have hT : (s.heap.push { cls := .type "tuple", data := .seq #[.str a t, .str b u] }).IsTuple s.heap.objs.size (twoV a b t u) := ⟨_, Heap.get?_push_size _ rfl, rfl, 0, rfl⟩
  have hsz : (s.heap.push { cls := .type "tuple", data := .seq #[.str a t, .str b u] }).objs.size = s.heap.objs.size + 1 := Heap.size_push ..
  refine wpAny_pyIter_tuple hT ?_
  refine ⟨_, [_, s.heap.objs.size], [_], _, _, _, _, rfl, Walks.tuple (A := A) hh _ s.heap.objs.size (by rw [hsz]; exact Nat.ne_of_lt (Nat.lt_succ_self _)) (twoV a b t u),
    ⟨⟨_, Heap.get?_push_size _ rfl, rfl, rfl⟩, hT.push _⟩, fun c hm => ?_, by simp [twoV], hc, fun v h' tk hP hk => ?_⟩
  · show c < ((s.heap.push _).push _).objs.size
    rw [Heap.size_push, hsz]
    rcases List.mem_cons.mp hm with rfl | hm
    · rw [hsz]; exact Nat.lt_succ_self _
    · rw [List.mem_singleton.mp hm]
      exact Nat.lt_succ_of_lt (Nat.lt_succ_self _)
  · have hold : ∀ c o, s.heap.get? c = some o → h'.get? c = some o := fun c o e => by
      refine hk c o (fun hm => ?_) (Heap.get?_push_of_some _ (Heap.get?_push_of_some _ e))
      have e1 := List.mem_singleton.mp hm
      have := Heap.lt_size e
      rw [e1, hsz] at this
      exact Nat.lt_irrefl _ (Nat.lt_of_succ_lt this)
    have fin := h h' tk hold
    have hP' : (twoV a b t u)[argBest bt 1]? = some v := hP
    by_cases hb : bt 1 0 = true
    · have e : argBest bt 1 = 1 := by simp [argBest, hb]
      rw [e] at hP'
      cases hP'
      rw [if_pos hb] at fin
      exact fin
    · have e : argBest bt 1 = 0 := by simp [argBest, hb]
      rw [e] at hP'
      cases hP'
      rw [if_neg hb] at fin
      exact fin
end
section
variable {X : Cx}
theorem cr_maxS (hc : X.calm = true) : CallR X (.builtin "max") (fun xs H Q => ∃ a b : Str, xs = [.str a, .str b] ∧ Q (.str (if decide (a.cps.toList < b.cps.toList) = true then b else a)) H) := by
  intro pins s σ H xs us Q I r h
  obtain ⟨a, b, rfl, q⟩ := h
  obtain ⟨u, w', rfl, ⟨t, rfl⟩, ⟨t', rfl⟩⟩ := vals2 r
  refine call_max_two (two_walk (A := X.A.in1) (I.ok.hd hc) (cmp_gt (twoS a b) fun _ _ => two_at) fun h' tk k => ⟨_, H, I.kept k, ?_, q⟩)
  show RelV _ (if decide ((twoS a b 0).cps.toList < (twoS a b 1).cps.toList) = true then _ else _)
  show RelV _ (if decide (a.cps.toList < b.cps.toList) = true then _ else _)
  split
  · exact ⟨_, rfl⟩
  · exact ⟨_, rfl⟩
theorem cr_minS (hc : X.calm = true) : CallR X (.builtin "min") (fun xs H Q => ∃ a b : Str, xs = [.str a, .str b] ∧ Q (.str (if decide (b.cps.toList < a.cps.toList) = true then b else a)) H) := by
  intro pins s σ H xs us Q I r h
  obtain ⟨a, b, rfl, q⟩ := h
  obtain ⟨u, w', rfl, ⟨t, rfl⟩, ⟨t', rfl⟩⟩ := vals2 r
  refine call_min_two (two_walk (A := X.A.in1) (I.ok.hd hc) (cmp_lt (twoS a b) fun _ _ => two_at) fun h' tk k => ⟨_, H, I.kept k, ?_, q⟩)
  show RelV _ (if decide ((twoS a b 1).cps.toList < (twoS a b 0).cps.toList) = true then _ else _)
  show RelV _ (if decide (b.cps.toList < a.cps.toList) = true then _ else _)
  split
  · exact ⟨_, rfl⟩
  · exact ⟨_, rfl⟩
end
end Ev

set_option Elab.async false
set_option linter.all false
set_option maxRecDepth 100000
set_option maxHeartbeats 4000000
/-! The evaluator, part E: subscripts, slices, calls of built-ins. -/
namespace Ev
open PySem L2

/-! ### subscripts -/
def ixD : D → D → Option D
  | .list xs, .int i => atI xs i
  | .tuple xs, .int i => atI xs i
  | .str z, .int i => if z.length ≤ line then (atI z.cps.toList i).map fun c => .str ⟨#[c]⟩ else none
  | .dict es, d => match keyOf d with
    | some k => getK es k
    | none => none
  | _, _ => none
def cutD (xs : List D) (lo hi : Option Int) : List D := (xs.drop (HT.sIx xs.length 0 lo)).take (HT.sIx xs.length xs.length hi - HT.sIx xs.length 0 lo)
/-- a part of a slice -/
def cPart (f : Option (Env → Res D)) : Env → Res (Option Int) := fun ρ => match f with
  | none => .ok none
  | some f => do
    let d ← f ρ
    match d with
    | .int i => .ok (some i)
    | _ => .bad
def slD (d : D) (lo hi : Option Int) : Option D := match d with
  | .list xs => some (.list (cutD xs lo hi))
  | .tuple xs => some (.tuple (cutD xs lo hi))
  | .str z => if z.length ≤ line then some (.str (cutS z lo hi)) else none
  | _ => none
def cSl (f : Env → Res D) (l h : Option (Env → Res D)) : Env → Res D := fun ρ => do
  let a ← f ρ
  let lo ← cPart l ρ
  let hi ← cPart h ρ
  ofO (slD a lo hi)

theorem DnL.ix {K : PySem.W.Frag} {F : Hp} {vs : List V} {ds : List D} {i : Int} {d : D} (h : DnL K F vs ds) (e : atI ds i = some d) : ∃ v, atI vs i = some v ∧ Dn K F v d := by
  unfold atI at e ⊢
  rw [h.length]
  cases q : ixN ds.length i with
  | none => rw [q] at e; cases e
  | some j =>
    rw [q] at e
    exact h.get e
theorem DnL.cut {K : PySem.W.Frag} {F : Hp} {vs : List V} {ds : List D} (h : DnL K F vs ds) (lo hi : Option Int) : DnL K F (cutV vs lo hi) (cutD ds lo hi) := by
  unfold cutV cutD
  rw [h.length]
  exact (h.drop _).take _

section
variable {X : Cx} {W : WX} {F0 H0 : Hp} {O : List Nat} {a b : Expr} {fa fb : Env → Res D} {pos : Pos}
def rIxDk : R2 := fun x y H Q => ∃ a v, x = .ref a ∧ DGet H a y (some v) ∧ Q v H
theorem ix_dk (hu : X.A.units + 1 < cLine) : IxR X rIxDk := by
  intro value slice pins s σ H x y v u Q I rx ry h hs
  obtain ⟨p, z, rfl, g, q⟩ := h
  obtain rfl : v = Value.ref p := rx
  exact PyProof.Rows.tail_any (dict_typeIs I g) PySem.F.slot_dict_getitem.lookup (d_getItem hu I g ry fun w' s3 I3 rw' => ⟨z, H, I3, rw', q⟩) hs
def rIxX (K : PySem.W.Frag) : R2 := fun x y H Q => rIx K x y H Q ∨ rIxDk x y H Q
theorem ix_X (hu : X.A.units + 1 < cLine) : IxR X (rIxX X.K) := ix_seq.or (ix_dk hu)
theorem ixD_ok : Op2E X.K (rIxX X.K) ixD := by
  intro F H x y a b c Q s b1 b2 e k
  unfold ixD at e
  split at e
  · cases b2.int
    obtain ⟨p, xs, rfl, q, n⟩ := b1.list s
    obtain ⟨v, e1, e2⟩ := n.ix e
    exact .inl (.inl ⟨p, xs, _, v, rfl, rfl, q, e1, k v F H (Gr.refl s) e2⟩)
  · cases b2.int
    obtain ⟨p, xs, rfl, q, n⟩ := b1.tuple
    obtain ⟨v, e1, e2⟩ := n.ix e
    exact .inl (.inr (.inl ⟨p, xs, _, v, rfl, rfl, seqT_same s q, e1, k v F H (Gr.refl s) e2⟩))
  · cases b1.str; cases b2.int
    split at e
    · rename_i hl
      obtain ⟨c0, e1, rfl⟩ := Option.map_eq_some_iff.mp e
      exact .inl (.inr (.inr ⟨_, _, c0, rfl, rfl, by rw [line_eq]; exact hl, e1, k _ F H (Gr.refl s) (.str _)⟩))
    · cases e
  · split at e
    · rename_i k0 e1
      obtain ⟨p, ks, rfl, hp, hk⟩ := b1.dict s
      have hx := kV_dn (b2.full s) e1
      subst hx
      rcases getK_ok k0 hk with ⟨v, d, q1, q2, q3⟩ | ⟨q1, q2⟩
      · rw [q2] at e; cases e
        refine .inr ⟨p, v, rfl, ?_, k v F H (Gr.refl s) q3⟩
        rw [← q1]; exact DGet.k hp
      · rw [q2] at e; cases e
    · cases e
  · cases e
theorem pe_ixE (hu : X.A.units + 1 < cLine) (ha : PE X a (xR X W F0 H0 O fa)) (hb : PE X b (xR X W F0 H0 O fb)) (hs : PlainIx b) : PE X (.Subscript a b pos) (xE X W F0 H0 O (c2 ixD fa fb)) :=
  PE.of (pe_ix (ix_X hu) ha hb hs) (op2E ixD_ok)

/-! ### slices -/
def xPart (X : Cx) (W : WX) (F0 H0 : Hp) (O : List Nat) (f : Env → Res (Option Int)) : TO := fun σ H Q => ∃ ρ F, Rel X.K F0 H0 O ρ σ F H ∧ RQ X.K X.mg W σ F H (f ρ) fun o => ∀ F' H', Gr F H F' H' → Q o H'
theorem PO.of {e : Option Expr} {t t' : TO} (h : PO X e t) (i : ∀ σ H Q, t' σ H Q → t σ H Q) : PO X e t' := ⟨fun pins s σ H Q I q => h.run pins s σ H Q I (i σ H Q q)⟩
theorem po_noneX : PO X none (xPart X W F0 H0 O (cPart none)) := PO.of po_none fun σ H Q ⟨ρ, F, r, q⟩ => q F H (Gr.refl r.sfh)
theorem po_someX {e : Expr} {f : Env → Res D} (h : PE X e (xR X W F0 H0 O f)) : PO X (some e) (xPart X W F0 H0 O (cPart (some f))) := PO.of (po_some h) fun σ H Q ⟨ρ, F, r, q⟩ => by
  refine ⟨ρ, F, r, (RQ.seq q).imp fun d _ q1 v F1 H1 g b1 => ?_⟩
  cases d with
  | int i => exact ⟨i, b1.int, q1 F1 H1 g⟩
  | _ => exact False.elim q1
/-- t[lo:hi] -/
def rSlF (K : PySem.W.Frag) : V → Option Int → Option Int → Hp → VK → Prop := fun x lo hi H Q => ∃ a xs, x = .ref a ∧ SqT K H a xs ∧
  (HT.sIx xs.length 0 lo = 0 ∧ HT.sIx xs.length xs.length hi = xs.length → Q (.ref a) H) ∧ (¬ (HT.sIx xs.length 0 lo = 0 ∧ HT.sIx xs.length xs.length hi = xs.length) → ∀ (p : Addr) (ob : Obj), H p = none → ob.dict = none → Q (.ref p) (upd H p (.frz ob (.tup (cutV xs lo hi)))))
theorem sl_tupF : SlR X (rSlF X.K) := by
  intro pins s σ H x v vl vu lo hi sl Q I rx hs pl pu h
  obtain ⟨a, xs, rfl, hx, q1, q2⟩ := h
  cases rx
  obtain ⟨its, r, ht, hz⟩ := I.tuple hx
  have hlen : its.toArray.size = xs.length := by rw [List.size_toArray]; exact r.length.symm
  refine ⟨"tuple", _, PyProof.Rows.slot_tuple_getitem.lookup, ht.typeIs, ?_⟩
  by_cases hw : HT.sIx xs.length 0 lo = 0 ∧ HT.sIx xs.length xs.length hi = xs.length
  · exact getItem_tuple_whole ht hs pl pu (by rw [hlen]; exact hw) ⟨.ref a, H, I, rfl, q1 hw⟩
  · refine HT.getItem_tuple_cut ht hs pl pu (by rw [hlen]; exact hw) ?_ (by rw [hlen]; exact hz)
    rw [hlen]
    refine ⟨.ref s.heap.objs.size, _, I.laid (t' := s.toks) (o := .frz _ (.tup (cutV xs lo hi))) (fun b ob q => Heap.get?_push_of_some _ q) (Nat.le_refl _) ⟨Heap.get?_push_size _ rfl, ?_⟩, rfl, q2 hw _ _ (I.hok.fresh (Nat.le_refl _)) rfl⟩
    exact ⟨Nat.le_trans (cutV_length xs lo hi) hz, _, (r.drop (HT.sIx xs.length 0 lo)).take (HT.sIx xs.length xs.length hi - HT.sIx xs.length 0 lo), PyProof.Rows.IsTup.new _ _⟩
def rSlX (K : PySem.W.Frag) : V → Option Int → Option Int → Hp → VK → Prop := fun x lo hi H Q => rSlL K x lo hi H Q ∨ rSlF K x lo hi H Q ∨ rSlS x lo hi H Q
theorem sl_X : SlR X (rSlX X.K) := sl_list.or (sl_tupF.or sl_str)
theorem cutD_length (xs : List D) (lo hi : Option Int) : (cutD xs lo hi).length ≤ xs.length := by
  unfold cutD
  rw [List.length_take, List.length_drop]
  omega
theorem cut_all (xs : List D) (lo hi : Option Int) (h : HT.sIx xs.length 0 lo = 0 ∧ HT.sIx xs.length xs.length hi = xs.length) : cutD xs lo hi = xs := by
  unfold cutD
  rw [h.1, h.2]
  simp
theorem pe_slO {l h : Option Expr} {fl fh : Option (Env → Res D)} {p2 : Pos} (ha : PE X a (xR X W F0 H0 O fa)) (hl : PO X l (xPart X W F0 H0 O (cPart fl))) (hh : PO X h (xPart X W F0 H0 O (cPart fh))) :
    PE X (.Subscript a (.Slice l h none p2) pos) (xO X W F0 H0 O (cSl fa fl fh)) :=
  PE.of (pe_slice sl_X ha hl hh) fun σ H Q ⟨ρ, F, rel, q⟩ => by
    refine ⟨ρ, F, rel, (RQ.seq q).imp fun a _ q1 v1 F1 H1 g1 b1 => ?_⟩
    refine ⟨ρ, F1, rel.grow g1, (RQ.seq q1).later g1.hh fun lo q2 F2 H2 g2 => ?_⟩
    refine ⟨ρ, F2, (rel.grow g1).grow g2, (RQ.seq q2).later (g1.hh.trans g2.hh) fun hi q3 F3 H3 g3 => ?_⟩
    have gg := g1.trans (g2.trans g3)
    have b3 := (b1.mono g2).mono g3
    have s := g3.fh
    cases a with
    | list xs =>
      obtain ⟨p, ys, rfl, qq, n⟩ := b3.list s
      refine .inl ⟨p, ys, rfl, qq, fun r hr => ?_⟩
      exact q3 _ F3 _ (gg.trans (Gr.out s hr)) ⟨r, _, rfl, gg.hh.free hr, noneOf s hr, upd_same, n.cut lo hi⟩
    | tuple xs =>
      obtain ⟨p, ys, rfl, qq, n⟩ := b3.tupN
      refine .inr (.inl ⟨p, ys, rfl, seqT_same s qq.t, fun hw => ?_, fun hw r ob hr hob => ?_⟩)
      · rw [n.length] at hw
        have e := cut_all xs lo hi hw
        refine q3 _ F3 _ gg ?_
        show Dn X.K F3 (.ref p) (.tuple (cutD xs lo hi))
        rw [e]
        exact .tup qq n
      · have g := Gr.new (o := .frz ob (.tup (cutV ys lo hi))) s hr
        exact q3 _ _ _ (gg.trans g) (.tup (.of upd_same hob) ((n.cut lo hi).mono g.ff))
    | str z =>
      cases b3.str
      dsimp only [slD] at q3
      by_cases hz : z.length ≤ line
      · rw [if_pos hz] at q3
        exact .inr (.inr ⟨z, rfl, by rw [line_eq]; exact hz, q3 _ F3 H3 gg (.str _)⟩)
      · rw [if_neg hz] at q3; exact False.elim q3
    | none => exact False.elim q3
    | bool _ => exact False.elim q3
    | int _ => exact False.elim q3
    | dict _ => exact False.elim q3

/-! ### calls of built-ins -/
def OpN (K : PySem.W.Frag) (r : List V → Hp → VK → Prop) (g : List D → Option D) : Prop :=
  ∀ (F H : Hp) (vs : List V) (as : List D) (c : D) (Q : VK), Same F H → BrL K F H vs as → g as = some c → (∀ v F' H', Gr F H F' H' → Owv K H F' H' v c → Q v H') → r vs H Q
theorem opN {r : List V → Hp → VK → Prop} {g : List D → Option D} {fs : List (Env → Res D)} (o : OpN X.K r g) (σ : St) (H : Hp) (Q : VK) (h : xO X W F0 H0 O (cN g fs) σ H Q) : tCB r (xAR X W F0 H0 O (cs fs)) σ H Q := by
  obtain ⟨ρ, F, rel, q⟩ := h
  refine ⟨ρ, F, rel, (RQ.seq q).imp fun as _ q1 vs F1 H1 g1 b1 => ?_⟩
  cases e : g as with
  | none => rw [e] at q1; exact False.elim q1
  | some c =>
    rw [e] at q1
    exact o F1 H1 vs as c Q g1.fh b1 e fun v F' H' g' w => q1 v F' H' (g1.trans g') (w.z fun p z => g1.hh.free z)
variable {x : Str} {p : Pos} {e : Expr} {es : List Expr} {fs : List (Env → Res D)} {bid T : String} {r : List V → Hp → VK → Prop} {g : List D → Option D}
theorem pe_biO (hc : CallR X (.builtin bid) r) (o : OpN X.K r g) (hg : Gl X x) (hm : X.mg x = none) (hv : bootBuiltins x = some (.builtin bid)) (ha : PA X (e :: es) (xAR X W F0 H0 O (cs fs))) (hn : x ≠ "__name__") (hdb : (x == ("__debug__" : Str)) = false)
    (he : starEach (e :: es) X.env = (false, eval e X.env) :: starEach es X.env) (hpl : (backTo pos (starEach es X.env)).any (·.1) = false) : PE X (.Call (.Name x p) (e :: es) [] pos) (xO X W F0 H0 O (cN g fs)) :=
  PE.of (pe_callB hc hg hm hv ha hn hdb he hpl) (opN o)
theorem pe_tyO (hc : CallR X (.type T) r) (o : OpN X.K r g) (hg : Gl X x) (hm : X.mg x = none) (hv : bootBuiltins x = some (.type T)) (ha : PA X (e :: es) (xAR X W F0 H0 O (cs fs))) (hn : x ≠ "__name__") (hdb : (x == ("__debug__" : Str)) = false)
    (he : starEach (e :: es) X.env = (false, eval e X.env) :: starEach es X.env) (hpl : (backTo pos (starEach es X.env)).any (·.1) = false) : PE X (.Call (.Name x p) (e :: es) [] pos) (xO X W F0 H0 O (cN g fs)) :=
  PE.of (pe_callTy hc hg hm hv ha hn hdb he hpl) (opN o)
theorem BrL.one {K : PySem.W.Frag} {F H : Hp} {vs : List V} {d : D} (h : BrL K F H vs [d]) : ∃ v, vs = [v] ∧ Br K F H v d := by
  cases h with
  | cons h1 h2 => cases h2; exact ⟨_, rfl, h1⟩
theorem BrL.two {K : PySem.W.Frag} {F H : Hp} {vs : List V} {d e : D} (h : BrL K F H vs [d, e]) : ∃ v u, vs = [v, u] ∧ Br K F H v d ∧ Br K F H u e := by
  cases h with
  | cons h1 h2 => cases h2 with
    | cons h3 h4 => cases h4; exact ⟨_, _, rfl, h1, h3⟩

def lenG : List D → Option D
  | [.str z] => if z.length ≤ line then some (.int z.length) else none
  | [.list xs] => some (.int xs.length)
  | [.tuple xs] => some (.int xs.length)
  | [.dict es] => some (.int es.length)
  | _ => none
def rLenX (K : PySem.W.Frag) : List V → Hp → VK → Prop := fun xs H Q => (∃ x n, xs = [x] ∧ LenV K x H n ∧ Q (.int n) H) ∨ (∃ a kvs, xs = [V.ref a] ∧ H a = some (.dK kvs) ∧ Q (.int kvs.length) H)
theorem call_lenX : CallR X (.builtin "len") (rLenX X.K) := call_len.or call_lenD
theorem DnK.length {K : PySem.W.Frag} {F : Hp} : ∀ {es : List (D × D)} {ks : List (Key × V)}, DnK K F ks es → ks.length = es.length
  | [], _, h => by cases h; rfl
  | _ :: _, _, h => by
    cases h with
    | cons h1 h2 => simp [DnK.length h2]
theorem lenG_ok : OpN X.K (rLenX X.K) lenG := by
  intro F H vs as c Q s bb e k
  unfold lenG at e
  split at e
  · split at e
    · rename_i hl
      cases e
      obtain ⟨v, rfl, b⟩ := bb.one
      cases b.str
      exact .inl ⟨_, _, rfl, ⟨by rw [line_eq]; exact hl, rfl⟩, k _ F H (Gr.refl s) (.int _)⟩
    · cases e
  · cases e
    obtain ⟨v, rfl, b⟩ := bb.one
    obtain ⟨p, xs, rfl, q, n⟩ := b.list s
    refine .inl ⟨_, _, rfl, .inl ⟨xs, q, rfl⟩, ?_⟩
    rw [n.length]
    exact k _ F H (Gr.refl s) (.int _)
  · cases e
    obtain ⟨v, rfl, b⟩ := bb.one
    obtain ⟨p, xs, rfl, q, n⟩ := b.tuple
    refine .inl ⟨_, _, rfl, .inr ⟨xs, seqT_same s q, rfl⟩, ?_⟩
    rw [n.length]
    exact k _ F H (Gr.refl s) (.int _)
  · cases e
    obtain ⟨v, rfl, b⟩ := bb.one
    obtain ⟨p, ks, rfl, q, n⟩ := b.dict s
    refine .inr ⟨p, ks, rfl, q, ?_⟩
    rw [n.length]
    exact k _ F H (Gr.refl s) (.int _)
  · cases e
/-- a list of truths, of whole numbers, of texts -/
def boolsOf : List D → Option (List Bool)
  | [] => some []
  | .bool b :: r => (boolsOf r).map (b :: ·)
  | _ => none
def intsOf : List D → Option (List Int)
  | [] => some []
  | .int b :: r => (intsOf r).map (b :: ·)
  | _ => none
def strsOf : List D → Option (List Str)
  | [] => some []
  | .str b :: r => (strsOf r).map (b :: ·)
  | _ => none
theorem bools_dn {K : PySem.W.Frag} {F : Hp} : ∀ {ds : List D} {vs : List V} {bs : List Bool}, DnL K F vs ds → boolsOf ds = some bs → vs = bs.map V.bl
  | [], _, _, h, e => by cases h; cases e; rfl
  | d :: ds, _, _, h, e => by
    cases h with
    | cons h1 h2 =>
      cases d with
      | bool b =>
        obtain ⟨bs, e1, rfl⟩ := Option.map_eq_some_iff.mp e
        cases h1
        rw [bools_dn h2 e1]; rfl
      | _ => cases e
theorem ints_dn {K : PySem.W.Frag} {F : Hp} : ∀ {ds : List D} {vs : List V} {bs : List Int}, DnL K F vs ds → intsOf ds = some bs → vs = bs.map V.int
  | [], _, _, h, e => by cases h; cases e; rfl
  | d :: ds, _, _, h, e => by
    cases h with
    | cons h1 h2 =>
      cases d with
      | int b =>
        obtain ⟨bs, e1, rfl⟩ := Option.map_eq_some_iff.mp e
        cases h1
        rw [ints_dn h2 e1]; rfl
      | _ => cases e
theorem strs_dn {K : PySem.W.Frag} {F : Hp} : ∀ {ds : List D} {vs : List V} {bs : List Str}, DnL K F vs ds → strsOf ds = some bs → vs = bs.map V.str
  | [], _, _, h, e => by cases h; cases e; rfl
  | d :: ds, _, _, h, e => by
    cases h with
    | cons h1 h2 =>
      cases d with
      | str b =>
        obtain ⟨bs, e1, rfl⟩ := Option.map_eq_some_iff.mp e
        cases h1
        rw [strs_dn h2 e1]; rfl
      | _ => cases e
theorem dn_strs {K : PySem.W.Frag} {F : Hp} : ∀ (ys : List Str), DnL K F (ys.map V.str) (ys.map PyData.str)
  | [] => .nil
  | y :: ys => .cons (.str y) (dn_strs ys)
theorem dn_ints {K : PySem.W.Frag} {F : Hp} : ∀ (ys : List Int), DnL K F (ys.map V.int) (ys.map PyData.int)
  | [] => .nil
  | y :: ys => .cons (.int y) (dn_ints ys)
def allG : List D → Option D
  | [.list xs] => (boolsOf xs).map fun bs => .bool (bs.all id)
  | _ => none
def anyG : List D → Option D
  | [.list xs] => (boolsOf xs).map fun bs => .bool (bs.any id)
  | _ => none
def sumG : List D → Option D
  | [.list xs] => (intsOf xs).map fun bs => .int bs.sum
  | _ => none
theorem allG_ok : OpN X.K (rAll X.K) allG := by
  intro F H vs as c Q s bb e k
  unfold allG at e
  split at e
  · obtain ⟨bs, e1, rfl⟩ := Option.map_eq_some_iff.mp e
    obtain ⟨v, rfl, b⟩ := bb.one
    obtain ⟨p, xs, rfl, q, n⟩ := b.list s
    cases bools_dn n e1
    exact ⟨p, bs, rfl, q, k _ F H (Gr.refl s) (.bl _)⟩
  · cases e
theorem anyG_ok : OpN X.K (rAny X.K) anyG := by
  intro F H vs as c Q s bb e k
  unfold anyG at e
  split at e
  · obtain ⟨bs, e1, rfl⟩ := Option.map_eq_some_iff.mp e
    obtain ⟨v, rfl, b⟩ := bb.one
    obtain ⟨p, xs, rfl, q, n⟩ := b.list s
    cases bools_dn n e1
    exact ⟨p, bs, rfl, q, k _ F H (Gr.refl s) (.bl _)⟩
  · cases e
theorem sumG_ok : OpN X.K (rSum X.K) sumG := by
  intro F H vs as c Q s bb e k
  unfold sumG at e
  split at e
  · obtain ⟨bs, e1, rfl⟩ := Option.map_eq_some_iff.mp e
    obtain ⟨v, rfl, b⟩ := bb.one
    obtain ⟨p, xs, rfl, q, n⟩ := b.list s
    cases ints_dn n e1
    exact ⟨p, bs, rfl, q, k _ F H (Gr.refl s) (.int _)⟩
  · cases e
def absG : List D → Option D
  | [.int i] => some (.int (if i < 0 then -i else i))
  | _ => none
theorem absG_ok : OpN X.K (fun xs H Q => ∃ i, xs = [.int i] ∧ Q (.int (if i < 0 then -i else i)) H) absG := by
  intro F H vs as c Q s bb e k
  unfold absG at e
  split at e
  · cases e
    obtain ⟨v, rfl, b⟩ := bb.one
    cases b.int
    exact ⟨_, rfl, k _ F H (Gr.refl s) (.int _)⟩
  · cases e
def max2G : List D → Option D
  | [.int i, .int j] => some (.int (if j > i then j else i))
  | [.str a, .str b] => some (.str (if decide (a.cps.toList < b.cps.toList) = true then b else a))
  | _ => none
def min2G : List D → Option D
  | [.int i, .int j] => some (.int (if j < i then j else i))
  | [.str a, .str b] => some (.str (if decide (b.cps.toList < a.cps.toList) = true then b else a))
  | _ => none
def rMaxX : List V → Hp → VK → Prop := fun xs H Q => (∃ i j, xs = [.int i, .int j] ∧ Q (.int (if j > i then j else i)) H) ∨ ∃ a b : Str, xs = [.str a, .str b] ∧ Q (.str (if decide (a.cps.toList < b.cps.toList) = true then b else a)) H
def rMinX : List V → Hp → VK → Prop := fun xs H Q => (∃ i j, xs = [.int i, .int j] ∧ Q (.int (if j < i then j else i)) H) ∨ ∃ a b : Str, xs = [.str a, .str b] ∧ Q (.str (if decide (b.cps.toList < a.cps.toList) = true then b else a)) H
theorem call_maxX (hc : X.calm = true) : CallR X (.builtin "max") rMaxX := (call_max2 hc).or (cr_maxS hc)
theorem call_minX (hc : X.calm = true) : CallR X (.builtin "min") rMinX := (call_min2 hc).or (cr_minS hc)
theorem max2G_ok : OpN X.K rMaxX max2G := by
  intro F H vs as c Q s bb e k
  unfold max2G at e
  split at e
  · cases e
    obtain ⟨v, u, rfl, b1, b2⟩ := bb.two
    cases b1.int; cases b2.int
    exact .inl ⟨_, _, rfl, k _ F H (Gr.refl s) (.int _)⟩
  · cases e
    obtain ⟨v, u, rfl, b1, b2⟩ := bb.two
    cases b1.str; cases b2.str
    exact .inr ⟨_, _, rfl, k _ F H (Gr.refl s) (.str _)⟩
  · cases e
theorem min2G_ok : OpN X.K rMinX min2G := by
  intro F H vs as c Q s bb e k
  unfold min2G at e
  split at e
  · cases e
    obtain ⟨v, u, rfl, b1, b2⟩ := bb.two
    cases b1.int; cases b2.int
    exact .inl ⟨_, _, rfl, k _ F H (Gr.refl s) (.int _)⟩
  · cases e
    obtain ⟨v, u, rfl, b1, b2⟩ := bb.two
    cases b1.str; cases b2.str
    exact .inr ⟨_, _, rfl, k _ F H (Gr.refl s) (.str _)⟩
  · cases e
def intG : List D → Option D
  | [.int i] => some (.int i)
  | [.bool b] => some (.int (if b then 1 else 0))
  | [.str a] => if a.length ≤ 640 then (PySem.intText? a).map .int else none
  | _ => none
def rIntX : List V → Hp → VK → Prop := fun xs H Q => ((∃ i, xs = [.int i] ∧ Q (.int i) H) ∨ ∃ k, xs = [.bl k] ∧ Q (.int (if k then 1 else 0)) H) ∨ (∃ a n, xs = [.str a] ∧ PySem.intText? a = some n ∧ a.length ≤ 640 ∧ Q (.int n) H)
theorem call_intX : CallR X (.type "int") rIntX := call_int1.or call_int_str
theorem intG_ok : OpN X.K rIntX intG := by
  intro F H vs as c Q s bb e k
  unfold intG at e
  split at e
  · cases e
    obtain ⟨v, rfl, b⟩ := bb.one
    cases b.int
    exact .inl (.inl ⟨_, rfl, k _ F H (Gr.refl s) (.int _)⟩)
  · cases e
    obtain ⟨v, rfl, b⟩ := bb.one
    cases b.bool
    exact .inl (.inr ⟨_, rfl, k _ F H (Gr.refl s) (.int _)⟩)
  · split at e
    · rename_i hl
      obtain ⟨n, e1, rfl⟩ := Option.map_eq_some_iff.mp e
      obtain ⟨v, rfl, b⟩ := bb.one
      cases b.str
      exact .inr ⟨_, n, rfl, e1, hl, k _ F H (Gr.refl s) (.int _)⟩
    · cases e
  · cases e
theorem cr_tupS (hc : X.calm = true) : CallR X (.type "tuple") (fun xs H Q => ∃ z : Str, xs = [.str z] ∧ z.cps.size ≤ sizeLine ∧ ∀ (l : Addr) (ob : Obj), H l = none → ob.dict = none → Q (.ref l) (upd H l (.frz ob (.tup (z.cps.toList.map fun c => V.str ⟨#[c]⟩))))) := by
  intro pins s σ H xs us Q I r h
  obtain ⟨z, rfl, hz, q⟩ := h
  obtain ⟨u, rfl, rx⟩ := vals1 r
  obtain ⟨t, rfl⟩ := rx
  refine call_tuple_str (I.ok.hd hc) z t (fun h' tk acc k hacc => ?_) hz
  have I1 : Inv X pins σ H { s with heap := h', toks := tk } := I.kept k
  have hv : Vals (z.cps.toList.map fun c => V.str ⟨#[c]⟩) acc.toList := by
    have el : acc.toList.length = z.cps.size := by rw [Array.length_toList]; exact hacc.1
    refine vals_of_at (by rw [List.length_map, Array.length_toList]; omega) fun j x u h1 h2 => ?_
    have sg := hacc.2 j u (by rw [← Array.getElem?_toList]; exact h2)
    rw [List.getElem?_map] at h1
    obtain ⟨c, w, h3, rfl⟩ := sg
    rw [← Array.getElem?_toList] at h3
    rw [h3] at h1
    cases h1
    exact ⟨w, rfl⟩
  refine ⟨.ref h'.objs.size, upd H h'.objs.size (.frz _ (.tup (z.cps.toList.map fun c => V.str ⟨#[c]⟩))), I1.laid (t' := tk) (fun b o e => Heap.get?_push_of_some _ e) (Nat.le_refl _) ⟨Heap.get?_push_size _ rfl, (show ObjOk X.prog X.w _ _ _ (.tup (z.cps.toList.map fun c => V.str ⟨#[c]⟩)) from ⟨by rw [List.length_map, Array.length_toList]; exact hz, acc.toList, hv, ?_⟩)⟩, rfl, q _ _ (I1.hok.fresh (Nat.le_refl _)) rfl⟩
  rw [Array.toArray_toList]
  exact PyProof.Rows.IsTup.new _ _
def tupG : List D → Option D
  | [.list xs] => some (.tuple xs)
  | [.tuple xs] => some (.tuple xs)
  | [.str z] => if z.cps.size ≤ line then some (.tuple (z.cps.toList.map fun c => .str ⟨#[c]⟩)) else none
  | _ => none
theorem call_tuple_ofF : CallR X (.type "tuple") (fun xs H Q => ∃ p ys, xs = [.ref p] ∧ ((SqL X.K H p ys ∧ ∀ (l : Addr) (ob : Obj), H l = none → ob.dict = none → Q (.ref l) (upd H l (.frz ob (.tup ys)))) ∨ (SqT X.K H p ys ∧ Q (.ref p) H))) := by
  intro pins s σ H xs us Q I r h
  obtain ⟨p, ys, rfl, h⟩ := h
  obtain ⟨u, rfl, rx⟩ := vals1 r
  cases rx
  rcases h with ⟨hq, q⟩ | ⟨hq, q⟩
  · obtain ⟨its, r', pl, hz⟩ := I.list hq
    have hlen := r'.length
    refine call_tuple_list pl.isList (fun h' kp => ?_) (by simp only [List.size_toArray] <;> omega)
    have I1 : Inv X pins σ H { s with heap := h' } := I.kept (t' := s.toks) kp
    have I2 : Inv X pins σ (upd H h'.objs.size (.frz { cls := .type "tuple", data := .seq its.toArray } (.tup ys))) { s with heap := h'.push { cls := .type "tuple", data := .seq its.toArray } } :=
      I1.laid (t' := s.toks) (fun b o e => Heap.get?_push_of_some _ e) (Nat.le_refl _) ⟨Heap.get?_push_size _ rfl, (show ObjOk X.prog X.w _ _ _ (.tup ys) from ⟨hz, its, r', PyProof.Rows.IsTup.new _ _⟩)⟩
    exact ⟨.ref h'.objs.size, _, I2, rfl, q _ _ (I1.hok.fresh (Nat.le_refl _)) rfl⟩
  · obtain ⟨its, r', pl, hz⟩ := I.tuple hq
    exact call_tuple_same pl ⟨.ref p, H, I, rfl, q⟩
def rTupX (K : PySem.W.Frag) : List V → Hp → VK → Prop := fun xs H Q => (∃ p ys, xs = [.ref p] ∧ ((SqL K H p ys ∧ ∀ (l : Addr) (ob : Obj), H l = none → ob.dict = none → Q (.ref l) (upd H l (.frz ob (.tup ys)))) ∨ (SqT K H p ys ∧ Q (.ref p) H))) ∨ ∃ z : Str, xs = [.str z] ∧ z.cps.size ≤ sizeLine ∧ ∀ (l : Addr) (ob : Obj), H l = none → ob.dict = none → Q (.ref l) (upd H l (.frz ob (.tup (z.cps.toList.map fun c => V.str ⟨#[c]⟩))))
theorem call_tupX (hc : X.calm = true) : CallR X (.type "tuple") (rTupX X.K) := call_tuple_ofF.or (cr_tupS hc)
theorem dn_signs {K : PySem.W.Frag} {F : Hp} : ∀ cs : List Nat, DnL K F (cs.map fun c => V.str ⟨#[c]⟩) (cs.map fun c => PyData.str ⟨#[c]⟩)
  | [] => .nil
  | c :: cs => .cons (.str _) (dn_signs cs)
theorem tupG_ok : OpN X.K (rTupX X.K) tupG := by
  intro F H vs as c Q s bb e k
  unfold tupG at e
  split at e
  · cases e
    obtain ⟨v, rfl, b⟩ := bb.one
    obtain ⟨p, xs, rfl, q, n⟩ := b.list s
    refine .inl ⟨p, xs, rfl, .inl ⟨q, fun r ob hr hob => ?_⟩⟩
    have g := Gr.new (o := .frz ob (.tup xs)) s hr
    exact k _ _ _ g (.tup (.of upd_same hob) (n.mono g.ff))
  · cases e
    obtain ⟨v, rfl, b⟩ := bb.one
    obtain ⟨p, xs, rfl, q, n⟩ := b.tupN
    exact .inl ⟨p, xs, rfl, .inr ⟨seqT_same s q.t, k _ F H (Gr.refl s) (.tup q n)⟩⟩
  · split at e
    · rename_i z hz
      cases e
      obtain ⟨v, rfl, b⟩ := bb.one
      cases b.str
      refine .inr ⟨_, rfl, by rw [line_eq]; exact hz, fun r ob hr hob => ?_⟩
      have g := Gr.new (o := .frz ob (.tup (z.cps.toList.map fun c => V.str ⟨#[c]⟩))) s hr
      exact k _ _ _ g (.tup (.of upd_same hob) (dn_signs _))
    · cases e
  · cases e
def lstG : List D → Option D
  | [.list xs] => some (.list xs)
  | [.tuple xs] => some (.list xs)
  | _ => none
theorem lstG_ok : OpN X.K (fun xs H Q => ∃ p ys, xs = [.ref p] ∧ (SqL X.K H p ys ∨ SqT X.K H p ys) ∧ ∀ l, H l = none → Q (.ref l) (upd H l (.lst ys))) lstG := by
  intro F H vs as c Q s bb e k
  unfold lstG at e
  split at e
  · cases e
    obtain ⟨v, rfl, b⟩ := bb.one
    obtain ⟨p, xs, rfl, q, n⟩ := b.list s
    exact ⟨p, xs, rfl, .inl q, fun r hr => k _ F _ (Gr.out s hr) ⟨r, _, rfl, hr, noneOf s hr, upd_same, n⟩⟩
  · cases e
    obtain ⟨v, rfl, b⟩ := bb.one
    obtain ⟨p, xs, rfl, q, n⟩ := b.tuple
    exact ⟨p, xs, rfl, .inr (seqT_same s q), fun r hr => k _ F _ (Gr.out s hr) ⟨r, _, rfl, hr, noneOf s hr, upd_same, n⟩⟩
  · cases e
def strG : List D → Option D
  | [.int i] => if i.natAbs.log2 < 1920 then some (.str (toString i)) else none
  | _ => none
theorem strG_ok : OpN X.K (fun xs H Q => ∃ i, xs = [.int i] ∧ i.natAbs.log2 < 1920 ∧ Q (.str (toString i)) H) strG := by
  intro F H vs as c Q s bb e k
  unfold strG at e
  split at e
  · split at e
    · rename_i hl
      cases e
      obtain ⟨v, rfl, b⟩ := bb.one
      cases b.int
      exact ⟨_, rfl, hl, k _ F H (Gr.refl s) (.str _)⟩
    · cases e
  · cases e
/-! ### isinstance -/
def tyN : D → String
  | .none => "NoneType"
  | .bool _ => "bool"
  | .int _ => "int"
  | .str _ => "str"
  | .list _ => "list"
  | .tuple _ => "tuple"
  | .dict _ => "dict"
def isiB (d : D) (T : String) : Bool := tyN d == T || (T == "int" && tyN d == "bool")
def tyOk (T : String) : Bool := T == "str" || T == "int" || T == "bool" || T == "tuple" || T == "list" || T == "dict"
theorem kitB_is (d : D) (T : String) (h : tyOk T = true) : kitB (tyN d) T = some (isiB d T) := by
  have h' : T = "str" ∨ T = "int" ∨ T = "bool" ∨ T = "tuple" ∨ T = "list" ∨ T = "dict" := by
    simp only [tyOk, Bool.or_eq_true, beq_iff_eq] at h
    rcases h with ((((h | h) | h) | h) | h) | h
    all_goals simp [h]
  rcases h' with rfl | rfl | rfl | rfl | rfl | rfl <;> cases d <;> (show kitB _ _ = some (_ : Bool)) <;> simp only [tyN, isiB] <;> decide +kernel
theorem tyX_of {K : PySem.W.Frag} {F H : Hp} {v : V} {d : D} (s : Same F H) (b : Br K F H v d) : TyX K H v (.type (tyN d)) := by
  cases d with
  | none => cases b.none; exact .base .non
  | bool x => cases b.bool; exact .base (.bl x)
  | int x => cases b.int; exact .base (.int x)
  | str x => cases b.str; exact .base (.str x)
  | list xs =>
    obtain ⟨a, ys, rfl, q, n⟩ := b.list s
    rcases q with (q | ⟨o, q⟩) | ⟨o, its, n, h1, h2, _⟩
    · exact .base (.lst q)
    · exact .base (.frz q)
    · exact .kList h1 h2
  | tuple xs =>
    obtain ⟨a, ys, rfl, q, n⟩ := b.tuple
    rcases seqT_same s q with (q | ⟨o, q⟩) | ⟨o, its, n, h1, h2, _⟩
    · exact .base (.tup q)
    · exact .fTuple q
    · exact .kTuple h1 h2
  | dict es =>
    obtain ⟨a, ks, rfl, q, n⟩ := b.dict s
    exact .base (.dK q)
def cIsi (f : Env → Res D) (T : String) : Env → Res D := c1 (fun d => some (.bool (isiB d T))) f
theorem pe_isiE {T : String} {tn : Str} {p1 p2 : Pos} (hT : tyOk T = true) (hb : bootBuiltins tn = some (.type T)) (hg : Gl X "isinstance") (hm : X.mg "isinstance" = none) (hg2 : Gl X tn) (hm2 : X.mg tn = none) (hn2 : tn ≠ "__name__") (hd2 : (tn == ("__debug__" : Str)) = false)
    (ha : PE X a (xR X W F0 H0 O fa)) (he : starEach [a, .Name tn p2] X.env = (false, eval a X.env) :: starEach [.Name tn p2] X.env) :
    PE X (.Call (.Name "isinstance" p1) [a, .Name tn p2] [] pos) (xE X W F0 H0 O (cIsi fa T)) :=
  PE.of (pe_callB call_isi hg hm PyProof.Rows.boot_isinstance (pa_cons ha (pa_cons (pe_bltn (v := .ty T) hg2 hm2 hb rfl hn2 hd2) pa_nil) he) (by decide) (by decide) he rfl) fun σ H Q ⟨ρ, F, rel, q⟩ => by
    refine ⟨ρ, F, rel, (RQ.seq q).imp fun d _ q1 v F1 H1 g b => ?_⟩
    exact ⟨v, .ty T, .type (tyN d), .type T, isiB d T, rfl, .ty T, tyX_of g.fh b, kit_ty (kitB_is d T hT), q1 _ F1 H1 g (.bl _)⟩
end
end Ev

set_option Elab.async false
set_option linter.all false
set_option maxRecDepth 100000
set_option maxHeartbeats 4000000
/-! The evaluator, part E2: turned about, large letters, {}. -/
namespace HT
open PySem PySem.Spec PyProof.Rows
section
variable {prog : Program} {w : World} {A : Around} {E : Value → Shared → Prop} {s : Shared}
theorem adjust_rev (n : Nat) : Builtin.Slice.sliceAdjust none none (-1) (n : Int) = ((n : Int) - 1, -1) := by
  unfold Builtin.Slice.sliceAdjust
  simp
theorem places_rev (n : Nat) : Builtin.Slice.slicePlaces ((n : Int) - 1) (-1) (-1) = n := by
  unfold Builtin.Slice.slicePlaces
  have h1 : ¬ ((-1 : Int) > 0) := by omega
  simp only [h1, if_false]
  have h2 : (- -1 : Int) = 1 := by decide
  rw [h2, Int.ediv_one]
  split <;> omega
theorem sliceApplied_rev {sl : Addr} {vs : Value} {n : Nat} {Q : Int × Int × Nat → Shared → Prop} (hs : s.heap.IsSliceOf sl .none .none vs) (ps : IsPart vs (some (-1)))
    (h : Q ((n : Int) - 1, -1, n) s) : wpAny (model prog w) A (Builtin.Slice.sliceApplied (.ref sl) (pure (n : Int))) Q E s := by
  obtain ⟨os, hos, hcs, hds⟩ := id hs
  unfold Builtin.Slice.sliceApplied Builtin.Slice.sliceFields
  refine wpAny_bind (wpAny_bind (wpAny_field hos hds (x := .none) rfl (wpAny_bind (wpAny_field hos hds (x := .none) rfl (wpAny_bind (wpAny_field hos hds (x := vs) rfl (wpAny_pure ?_)))))))
  refine wpAny_bind (slicePart_ ps ?_)
  show wpAny _ _ (if ((-1 : Int) == 0) = true then _ else _) _ _ s
  rw [if_neg (by decide)]
  refine wpAny_bind (slicePart_ .none (wpAny_bind (slicePart_ .none (wpAny_bind (wpAny_pure ?_)))))
  show wpAny _ _ (match Builtin.Slice.sliceAdjust none none (-1) (n : Int) with | (lo, hi) => pure (lo, (-1 : Int), Builtin.Slice.slicePlaces lo hi (-1))) _ _ s
  rw [adjust_rev n]
  show wpAny _ _ (pure ((n : Int) - 1, (-1 : Int), Builtin.Slice.slicePlaces ((n : Int) - 1) (-1) (-1))) _ _ s
  rw [places_rev]
  exact wpAny_pure h
theorem pick_rev (xs : Array Value) : ((List.range xs.size).filterMap fun (m : Nat) => xs[(((xs.size : Nat) : Int) - 1 + (m : Int) * -1).toNat]?).toArray = xs.toList.reverse.toArray := by
  have e : (List.range xs.size).map (fun (m : Nat) => (((xs.size : Nat) : Int) - 1 + (m : Int) * -1).toNat) = (List.range xs.size).reverse := by
    rw [← PySem.W.krv_range]
    apply List.map_congr_left
    intro k hk
    have := List.mem_range.mp hk
    omega
  have e2 : ((List.range xs.size).filterMap fun (m : Nat) => xs[(((xs.size : Nat) : Int) - 1 + (m : Int) * -1).toNat]?) = ((List.range xs.size).map (fun (m : Nat) => (((xs.size : Nat) : Int) - 1 + (m : Int) * -1).toNat)).filterMap (xs[·]?) := by
    rw [List.filterMap_map]; rfl
  rw [e2, e, List.filterMap_reverse, PySem.W.krv_all]
theorem getItem_tuple_rev {t sl : Addr} {items : Array Value} {vs : Value} {Q : Value → Shared → Prop} (ht : IsTup s.heap t items) (hs : s.heap.IsSliceOf sl .none .none vs) (ps : IsPart vs (some (-1)))
    (h : Q (.ref s.heap.objs.size) { s with heap := s.heap.push { cls := .type "tuple", data := .seq items.toList.reverse.toArray } })
    (hsz : items.size ≤ sizeLine) : wpAny (model prog w) A (getItem (.ref t) (.ref sl)) Q E s := by
  have htake : sizeOk (.seq items.toList.reverse.toArray) := by
    show items.toList.reverse.toArray.size ≤ sizeLine
    rw [List.size_toArray, List.length_reverse, Array.length_toList]
    exact hsz
  obtain ⟨os, hos, hcs, hds⟩ := id hs
  have hTs : s.TypeIs (.ref sl) "slice" := ⟨os, hos, hcs⟩
  unfold getItem
  try with_reducible refine wpAny_holding ?_
  first | refine wpAny_bind (wpAny_pure ?_) | skip
  refine wpAny_bind (wpAny_sequenceKey ht.typeIs (by decide) ?_)
  refine wpAny_bind (wpAny_callSpecial?_slot (name := Str.ofString "__getitem__") ht.typeIs PyProof.Rows.slot_tuple_getitem
    (wpAny_call_entry PyProof.Rows.slot_tuple_getitem ht.typeIs entry_tuple_getitem ?_ (args_tuple_getitem _ _)))
  show wpAny _ _ (Builtin.Tuple.tupleItemsOf (.ref t) >>= _) _ _ s
  refine wpAny_bind (tupleItemsOf_ ht ?_)
  refine wpAny_bind (wpAny_typeOf hTs ?_)
  rw [if_pos (by decide)]
  refine wpAny_bind (sliceApplied_rev hs ps ?_)
  have hno : ¬ ((((items.size : Nat) : Int) - 1 == 0 && (-1 : Int) == 1 && items.size == items.size) = true) := by
    intro q
    rw [Bool.and_eq_true, Bool.and_eq_true] at q
    have q1 : (-1 : Int) = 1 := eq_of_beq q.1.2
    omega
  show wpAny _ _ (if (((items.size : Nat) : Int) - 1 == 0 && (-1 : Int) == 1 && items.size == items.size) = true then _ else _) _ _ s
  rw [if_neg hno, pick_rev]
  first
    | exact wpAny_bind (m := Builtin.Tuple.tupleExact _) (wpAny_newObj_type (wpAny_pure ⟨_, rfl, wpAny_pure h⟩) htake)
    | exact wpAny_bind (m := Builtin.Tuple.tupleExact _) (wpAny_newObj_type (wpAny_bind (wpAny_pure (wpAny_pure ⟨_, rfl, wpAny_pure h⟩))) htake)
    | exact wpAny_bind (wpAny_bind (m := Builtin.Tuple.tupleExact _) (wpAny_newObj_type (wpAny_pure (wpAny_pure ⟨_, rfl, wpAny_pure h⟩)) htake))
    | exact wpAny_bind (wpAny_bind (m := Builtin.Tuple.tupleExact _) (wpAny_newObj_type (wpAny_pure ⟨_, rfl, wpAny_pure h⟩) htake))
end
end HT
namespace Ev
open PySem L2 PySem.Spec PyProof.Rows
section
variable {X : Cx} {W : WX} {F0 H0 : Hp} {O : List Nat}
def tRevX (K : PySem.W.Frag) (te : TE) : TE := fun σ H Q => te σ H fun x H1 => (∃ a xs, x = .ref a ∧ SqL K H1 a xs ∧ ∀ p, H1 p = none → Q (.ref p) (upd H1 p (.lst xs.reverse))) ∨
  (∃ a xs, x = .ref a ∧ SqT K H1 a xs ∧ ∀ (p : Addr) (ob : Obj), H1 p = none → ob.dict = none → Q (.ref p) (upd H1 p (.frz ob (.tup xs.reverse))))
theorem pe_revX {e : Expr} {te : TE} {k : Nat} {p1 p2 p3 pos : Pos} (he : PE X e te) : PE X (.Subscript e (.Slice none none (some (.UnaryOp .USub (.Constant (.int 1) k p1) p2)) p3) pos) (tRevX X.K te) := by
  refine ⟨fun pins s σ H Q I h => ?_⟩
  refine Subscript_ (thn (he.run pins s σ H _ I h) fun v s1 ⟨x, H1, I1, r1, q1⟩ => ?_)
  have hst : PO X (some (.UnaryOp .USub (.Constant (.int 1) k p1) p2)) (tPart (tUn (rU fun i => .int (-i)) (tC (.int 1)))) := po_some (pe_un un_neg pe_int)
  refine wpAny_Slice (thn (po_none.run pins s1 σ H1 (fun o H2 => o = none ∧ H2 = H1) I1 ⟨rfl, rfl⟩) fun vl s2 ⟨l, H2, I2, pl, el, e2⟩ => ?_)
  subst el e2
  refine thn (po_none.run pins s2 σ H2 (fun o H3 => o = none ∧ H3 = H2) I2 ⟨rfl, rfl⟩) fun vu s3 ⟨u, H3, I3, pu, eu, e3⟩ => ?_
  subst eu e3
  refine thn (hst.run pins s3 σ H3 (fun o H4 => o = some (-1) ∧ H4 = H3) I3 ⟨1, rfl, -1, rfl, rfl, rfl⟩) fun vs s4 ⟨o, H4, I4, ps, eo, e4⟩ => ?_
  subst eo e4
  have I5 : Inv X pins σ H4 { s4 with heap := s4.heap.push { cls := .type "slice", data := .fields #[vl, vu, vs] } } := I4.kept (t' := s4.toks) fun b ob q => Heap.get?_push_of_some _ q
  rcases q1 with ⟨a, xs, rfl, hx, q⟩ | ⟨a, xs, rfl, hx, q⟩
  · cases r1
    obtain ⟨its, r, ht, hz⟩ := I5.list hx
    have hlen := r.length
    show wpAny (model X.prog X.w) X.A (subscriptTail e (.Slice none none (some (.UnaryOp .USub (.Constant (.int 1) k p1) p2)) p3) (.ref a) (.ref s4.heap.objs.size)) (EP X pins σ Q) X.xe { s4 with heap := s4.heap.push { cls := .type "slice", data := .fields #[vl, vu, vs] } }
    refine tail_any (ops := [.ref a, .ref s4.heap.objs.size]) ht.isList.typeIs (PySem.slot_list_getitem.lookup) ?_ (by with_unfolding_all rfl)
    refine wpAny_getItem_list_slice ht.isList (Heap.IsSliceOf.new _ vl vu vs) pl pu ps (by decide) ?_ (by rw [List.size_toArray]; omega)
    rw [PySem.W.krv_pick]
    refine ⟨.ref _, _, I5.laid (t' := s4.toks) (o := .lst xs.reverse) (fun b ob q => Heap.get?_push_of_some _ q) (Nat.le_refl _) ?_, rfl, q _ (I5.hok.fresh (Nat.le_refl _))⟩
    exact ⟨by rw [List.length_reverse]; exact hz, _, 0, r.reverse, Heap.get?_push_size _ rfl⟩
  · cases r1
    obtain ⟨its, r, ht, hz⟩ := I5.tuple hx
    have hlen := r.length
    cases pl
    cases pu
    show wpAny (model X.prog X.w) X.A (subscriptTail e (.Slice none none (some (.UnaryOp .USub (.Constant (.int 1) k p1) p2)) p3) (.ref a) (.ref s4.heap.objs.size)) (EP X pins σ Q) X.xe { s4 with heap := s4.heap.push { cls := .type "slice", data := .fields #[.none, .none, vs] } }
    refine tail_any (ops := [.ref a, .ref s4.heap.objs.size]) ht.typeIs (PyProof.Rows.slot_tuple_getitem.lookup) ?_ (by with_unfolding_all rfl)
    refine HT.getItem_tuple_rev ht (Heap.IsSliceOf.new _ .none .none vs) ps ?_ (by rw [List.size_toArray]; omega)
    refine ⟨.ref _, _, I5.laid (t' := s4.toks) (o := .frz _ (.tup xs.reverse)) (fun b ob q => Heap.get?_push_of_some _ q) (Nat.le_refl _) ⟨Heap.get?_push_size _ rfl, ?_⟩, rfl, q _ _ (I5.hok.fresh (Nat.le_refl _)) rfl⟩
    exact ⟨by rw [List.length_reverse]; exact hz, _, r.reverse, by first | exact IsTup.new _ _ | (have := IsTup.new ({ s4 with heap := s4.heap.push { cls := .type "slice", data := .fields #[.none, .none, vs] } }).heap its.reverse.toArray; simpa using this)⟩
def revD : D → Option D
  | .list xs => some (.list xs.reverse)
  | .tuple xs => some (.tuple xs.reverse)
  | _ => none
theorem pe_revO {e : Expr} {f : Env → Res D} {k : Nat} {p1 p2 p3 pos : Pos} (he : PE X e (xR X W F0 H0 O f)) : PE X (.Subscript e (.Slice none none (some (.UnaryOp .USub (.Constant (.int 1) k p1) p2)) p3) pos) (xO X W F0 H0 O (c1 revD f)) :=
  PE.of (pe_revX he) fun σ H Q ⟨ρ, F, rel, q⟩ => by
    refine ⟨ρ, F, rel, (RQ.seq q).imp fun d _ q1 v F1 H1 g b => ?_⟩
    cases e : revD d with
    | none => rw [e] at q1; exact False.elim q1
    | some c =>
      rw [e] at q1
      unfold revD at e
      split at e
      · rename_i xs
        cases e
        obtain ⟨a, us, rfl, h1, h2⟩ := b.list g.fh
        refine .inl ⟨a, us, rfl, h1, fun p hp => ?_⟩
        have g2 := Gr.out (o := .lst us.reverse) g.fh hp
        refine q1 _ _ _ (g.trans g2) ⟨p, _, rfl, g.hh.free hp, ?_, upd_same, h2.reverse⟩
        cases z : F1 p with
        | none => rfl
        | some o => have := g.fh p o z; rw [hp] at this; cases this
      · rename_i xs
        cases e
        obtain ⟨a, us, rfl, h1, h2⟩ := b.tuple
        refine .inr ⟨a, us, rfl, seqT_same g.fh h1, fun p ob hp hob => ?_⟩
        have g2 := Gr.new (o := .frz ob (.tup us.reverse)) g.fh hp
        exact q1 _ _ _ (g.trans g2) (.tup (.of upd_same hob) (h2.reverse.mono g2.ff))
      · cases e
/-! ### {} -/
theorem pe_dictO {pos : Pos} : PE X (.Dict [] [] pos) (xO X W F0 H0 O (cLit (.dict []))) := PE.of pe_dnewK fun σ H Q ⟨ρ, F, rel, q⟩ p hp => by
  have g2 := Gr.out (o := .dK []) rel.sfh hp
  refine q _ _ _ g2 ⟨p, [], rfl, hp, ?_, upd_same, .nil⟩
  cases z : F p with
  | none => rfl
  | some o => have := rel.sfh p o z; rw [hp] at this; cases this
end
end Ev

set_option Elab.async false
set_option linter.all false
set_option maxRecDepth 100000
set_option maxHeartbeats 4000000
/-! The evaluator, part E3: methods of texts. -/
namespace Ev
open PySem L2
section
variable {X : Cx} {W : WX} {F0 H0 : Hp} {O : List Nat}
/-- a base that is no call -/
def notCall : Expr → Bool
  | .Call _ (_ :: _) _ _ => true
  | .Call _ _ _ _ => false
  | _ => true
theorem attr_nc {o : Expr} (h : notCall o = true) (m : Str) (env : PySem.Env) (w : Sem Value) : attributeBase o m env w = w := by
  cases o <;> first | rfl | (cases h; done) | skip
  rename_i f as ks p
  cases as with
  | nil => cases h
  | cons a as => cases f <;> rfl
theorem mt_upper : MtR X "str.upper" (fun x xs H Q => ∃ a, x = .str a ∧ xs = [] ∧ a.length ≤ 5592405 ∧ Q (.str (Txt.upper a)) H) :=
  mt0 (C := fun a => a.length ≤ 5592405) (g := fun a => .str (Txt.upper a)) fun a _ _ _ hc h => PySem.SC.upper (PyProof.Rows.short24 (by have := PyProof.Rows.len_upper a; omega)) (h _ _ ⟨_, rfl⟩)
/-- a method of a text, of no arguments, read off -/
def Mt0 (K : PySem.W.Frag) (r : V → List V → Hp → VK → Prop) (g : D → Option D) : Prop := ∀ (F H : Hp) (x : V) (a c : D) (Q : VK), Same F H → Br K F H x a → g a = some c → (∀ v F' H', Gr F H F' H' → Owv K H F' H' v c → Q v H') → (∃ z, x = .str z) ∧ r x [] H Q
theorem pe_m0O {o : Expr} {f : Env → Res D} {id : String} {name : Str} {apos pos : Pos} {r : V → List V → Hp → VK → Prop} {g : D → Option D} (slot : Slot "str" name id) (ty : typeOf (.builtin id) = pure (.type "method_descriptor")) (rule : MtR X id r) (m : Mt0 X.K r g)
    (ho : PE X o (xR X W F0 H0 O f)) (hb : notCall o = true) (hl : (apos.endLine == pos.line) = true) : PE X (.Call (.Attribute o name apos) [] [] pos) (xO X W F0 H0 O (c1 g f)) :=
  PE.of (pe_m0 slot ty rule ho (attr_nc hb _ _ _) hl) fun σ H Q ⟨ρ, F, rel, q⟩ => by
    refine ⟨ρ, F, rel, (RQ.seq q).imp fun d _ q1 v F1 H1 g1 b => ?_⟩
    cases e : g d with
    | none => rw [e] at q1; exact False.elim q1
    | some c =>
      rw [e] at q1
      exact m F1 H1 v d c Q g1.fh b e fun v F' H' g' w => q1 v F' H' (g1.trans g') (w.z fun p z => g1.hh.free z)
def upperD : D → Option D
  | .str z => if z.length ≤ 5592405 then some (.str (Txt.upper z)) else none
  | _ => none
theorem upperD_ok {K : PySem.W.Frag} : Mt0 K (fun x xs H Q => ∃ a, x = .str a ∧ xs = [] ∧ a.length ≤ 5592405 ∧ Q (.str (Txt.upper a)) H) upperD := by
  intro F H x a c Q s b e k
  unfold upperD at e
  split at e
  · split at e
    · rename_i z hz
      cases e
      cases b.str
      exact ⟨⟨_, rfl⟩, _, rfl, rfl, hz, k _ F H (Gr.refl s) (.str _)⟩
    · cases e
  · cases e
end
end Ev

set_option Elab.async false
set_option linter.all false
set_option maxRecDepth 100000
set_option maxHeartbeats 4000000
/-! The evaluator, part E4: sorted, methods of texts with one argument. -/
namespace Ev
open PySem L2
section
variable {X : Cx} {W : WX} {F0 H0 : Hp} {O : List Nat}
/-- sorted(xs), data of one form -/
def SortOk (ds : List D) : Prop := PySem.W.AllAlike ds ∧ PySem.W.Sortable ds ∧ ∀ d ∈ ds, SeqAt.shaped d = true
def sortL (ds : List D) : List D := ds.mergeSort (PySem.W.dataLe false id)
def rSortX (K : PySem.W.Frag) : List V → Hp → VK → Prop := fun vs H Q => ∃ (a : Addr) (xs : List V) (ds : List D) (F : Hp), vs = [V.ref a] ∧ SqL K H a xs ∧ Same F H ∧ DnL K F xs ds ∧ SortOk ds ∧
  ∀ (zs : List V) (p : Addr), DnL K F zs (sortL ds) → H p = none → Q (.ref p) (upd H p (.lst zs))
theorem each_of {K : PySem.W.Frag} {F : Hp} : ∀ {ds : List D} {xs : List V} {us : List Value}, DnL K F xs ds → Vals xs us → PySem.W.EachIs (fun (u : Value) (d : D) => ∃ x, RelV x u ∧ Dn K F x d) us ds
  | [], _, _, h, r => by cases h; cases r; exact .nil
  | d :: ds, _, _, h, r => by
    cases h with
    | cons h1 h2 =>
      cases r with
      | cons r1 r2 => exact .cons ⟨_, r1, h1⟩ (each_of h2 r2)
theorem each_back {K : PySem.W.Frag} {F : Hp} : ∀ {ds : List D} {us : List Value}, PySem.W.EachIs (fun (u : Value) (d : D) => ∃ x, RelV x u ∧ Dn K F x d) us ds → ∃ xs, DnL K F xs ds ∧ Vals xs us
  | _, _, .nil => ⟨[], .nil, .nil⟩
  | _, _, .cons ⟨x, r, n⟩ t => by
    obtain ⟨xs, h1, h2⟩ := each_back t
    exact ⟨x :: xs, .cons n h1, .cons r h2⟩
theorem dnl_mem {K : PySem.W.Frag} {F : Hp} : ∀ {ds : List D} {xs : List V} {us : List Value}, DnL K F xs ds → Vals xs us → PySem.W.EachIs (fun (u : Value) (d : D) => d ∈ ds ∧ ∃ x, RelV x u ∧ Dn K F x d) us ds := by
  intro ds xs us h r
  have := each_of h r
  clear h r
  induction this with
  | nil => exact .nil
  | cons h _ ih => exact .cons ⟨List.mem_cons_self, h⟩ (ih.mono fun _ _ q => ⟨List.mem_cons_of_mem _ q.1, q.2⟩)
theorem cr_sortX (hu : X.A.units + 67 < cLine) : CallR X (.builtin "sorted") (rSortX X.K) := by
  intro pins s σ H vs us Q I r h
  obtain ⟨a, xs, ds, F, rfl, hs, sf, hn, ⟨hal, hk, hsh⟩, q⟩ := h
  obtain ⟨its, rv, hl, hz⟩ := I.list hs
  rw [Vals.ref1 r]
  have e := each_of hn rv
  have hd : its.length = ds.length := by rw [← rv.length, hn.length]
  have er : PySem.W.EachIs (fun (v : Value) (b : D) => ∃ as, Reads s.heap v (id b) as) its ds := (dnl_mem hn rv).mono fun u d ⟨hm, x, rx, nx⟩ =>
    Dp.reads I d x u ((nx.mono sf).dp d x (SeqAt.canLay_of_shaped (hsh d hm))) rx
  have hmap : ds.map (id : D → D) = ds := List.map_id ds
  refine PySem.W.sorted_data (enc := id) hl.isList e er (by rw [hmap]; exact hal) (by rw [hmap]; exact hk) (by rw [← hd, ← rv.length]; exact hz) (fun b hb => ?_) fun out ho eo => ?_
  · have h1 := SeqAt.depth_of_shaped (hsh b hb)
    show X.A.units + 2 + b.depth < cLine
    omega
  · obtain ⟨zs, z1, z2⟩ := each_back eo
    obtain ⟨ep, he'⟩ := PyProof.Rows.sortedAll_at s.heap its out.toArray
    have hlen : zs.length ≤ sizeLine := by rw [z2.length, ho, ← hd, ← rv.length]; exact hz
    exact ⟨.ref _, upd H (s.heap.objs.size + 1) (.lst zs), I.laid (t' := s.toks) (fun _ _ => PyProof.Rows.sortedAll_old) (Nat.le_succ _) ⟨hlen, out, ep, z2, he'⟩, rfl, q zs _ z1 (I.hok.fresh (Nat.le_succ _))⟩
mutual
theorem reads_there {h : Heap} : ∀ (d : D) (v : Value) (as : List Addr), Reads h v d as → ∀ a ∈ as, ∃ o, h.get? a = some o
  | .none, _, _, r, _, m => by cases r; cases m
  | .bool b, _, _, r, _, m => by cases r; cases m
  | .int i, _, _, r, _, m => by cases r; cases m
  | .str i, _, _, r, _, m => by cases r; cases m
  | .list ds, _, _, r, b, m => by
    cases r with
    | list h1 h2 h3 h4 =>
      rcases List.mem_cons.mp m with rfl | m
      · exact ⟨_, h1⟩
      · exact readsAll_there ds _ _ h4 b m
  | .tuple ds, _, _, r, b, m => by
    cases r with
    | tuple h1 h2 h3 h4 => exact readsAll_there ds _ _ h4 b m
  | .dict es, _, _, r, b, m => by
    cases r with
    | dict h1 h2 h3 h4 h5 =>
      rcases List.mem_cons.mp m with rfl | m
      · exact ⟨_, h1⟩
      · rcases List.mem_append.mp m with m | m
        · exact readsAll_thereK es _ _ h4 b m
        · exact readsAll_thereV es _ _ h5 b m
theorem readsAll_there {h : Heap} : ∀ (ds : List D) (vs : List Value) (as : List Addr), ReadsAll h vs ds as → ∀ a ∈ as, ∃ o, h.get? a = some o
  | [], _, _, r, _, m => by cases r; cases m
  | d :: ds, _, _, r, b, m => by
    cases r with
    | cons r1 r2 =>
      rcases List.mem_append.mp m with m | m
      · exact reads_there d _ _ r1 b m
      · exact readsAll_there ds _ _ r2 b m
theorem readsAll_thereK {h : Heap} : ∀ (es : List (D × D)) (vs : List Value) (as : List Addr), ReadsAll h vs (es.map (·.1)) as → ∀ a ∈ as, ∃ o, h.get? a = some o
  | [], _, _, r, _, m => by cases r; cases m
  | (k, d) :: es, _, _, r, b, m => by
    cases r with
    | cons r1 r2 =>
      rcases List.mem_append.mp m with m | m
      · exact reads_there k _ _ r1 b m
      · exact readsAll_thereK es _ _ r2 b m
theorem readsAll_thereV {h : Heap} : ∀ (es : List (D × D)) (vs : List Value) (as : List Addr), ReadsAll h vs (es.map (·.2)) as → ∀ a ∈ as, ∃ o, h.get? a = some o
  | [], _, _, r, _, m => by cases r; cases m
  | (k, d) :: es, _, _, r, b, m => by
    cases r with
    | cons r1 r2 =>
      rcases List.mem_append.mp m with m | m
      · exact reads_there d _ _ r1 b m
      · exact readsAll_thereV es _ _ r2 b m
end
def rSortT (K : PySem.W.Frag) : List V → Hp → VK → Prop := fun vs H Q => ∃ (a : Addr) (xs : List V) (ds : List D) (F : Hp), vs = [V.ref a] ∧ SqT K H a xs ∧ Same F H ∧ DnL K F xs ds ∧ SortOk ds ∧
  ∀ (zs : List V) (p : Addr), DnL K F zs (sortL ds) → H p = none → Q (.ref p) (upd H p (.lst zs))
open PySem.Spec PyProof.Rows in
/-- sorted(t), t a tuple -/
theorem cr_sortT (hu : X.A.units + 67 < cLine) : CallR X (.builtin "sorted") (rSortT X.K) := by
  intro pins s σ H vs us Q I r h
  obtain ⟨a, xs, ds, F, rfl, hs, sf, hn, ⟨hal, hk, hsh⟩, q⟩ := h
  obtain ⟨its, rv, ht, hz⟩ := I.tuple hs
  rw [Vals.ref1 r]
  obtain ⟨o, ho, hcl, n, hdt⟩ := ht
  have e := each_of hn rv
  have hd : its.length = ds.length := by rw [← rv.length, hn.length]
  refine Calls.call_function_entry kind_sorted plain_sorted entry_sorted (args_sorted1 _) ?_
  unfold Builtin.«sorted»
  refine wpAny_bind (m := checkCount "sorted" 1 1 _) (wpAny_pure ?_)
  refine wpAny_bind (wpAny_collect_seq a (.inr rfl) ho hcl hdt (fun h1 k1 => ?_) (by rw [List.size_toArray, hd, ← hn.length]; exact hz))
  have I1 : Inv X pins σ H { s with heap := h1 } := I.kept (t' := s.toks) k1
  rw [List.toList_toArray]
  refine wpAny_bind (wpAny_newList ?_ (by rw [hd, ← hn.length]; exact hz))
  have hoL : (h1.push (seqObj "list" its.toArray 0)).get? h1.objs.size = some (seqObj "list" its.toArray 0) := Heap.get?_push_size _ rfl
  have k2 : ∀ b u, s.heap.get? b = some u → (h1.push (seqObj "list" its.toArray 0)).get? b = some u := fun b u e => Heap.get?_push_of_some _ (k1 b u e)
  have er : PySem.W.EachIs (fun (v : Value) (d : D) => ∃ as, Reads (h1.push (seqObj "list" its.toArray 0)) v (id d) as ∧ h1.objs.size ∉ as) its ds := (dnl_mem hn rv).mono fun u d ⟨hm, x, rx, nx⟩ => by
    obtain ⟨as, r⟩ := Dp.reads I d x u ((nx.mono sf).dp d x (SeqAt.canLay_of_shaped (hsh d hm))) rx
    refine ⟨as, PyProof.Rows.Reads.keeps k2 r, fun hm2 => ?_⟩
    obtain ⟨o2, e2⟩ := reads_there d u as r _ hm2
    exact absurd (Heap.lt_size (k1 _ _ e2)) (Nat.lt_irrefl _)
  have hmap : ds.map (id : D → D) = ds := List.map_id ds
  refine wpAny_bind (wpAny_holding (PySem.W.list_sort_data (s := { s with heap := h1.push (seqObj "list" its.toArray 0) }) (bs := ds) (enc := id) hoL e er (by rw [hmap]; exact hal) (by rw [hmap]; exact hk) (by rw [← hn.length]; exact hz) (fun b hb => ?_) fun out lo eo => ?_))
  · have h1 := SeqAt.depth_of_shaped (hsh b hb)
    show X.A.units + 1 + 1 + b.depth < cLine
    omega
  · obtain ⟨zs, z1, z2⟩ := each_back eo
    obtain ⟨c, hcl2⟩ := sortedHeap_at (vs := its) (out := out.toArray) hoL
    have hlen : zs.length ≤ sizeLine := by rw [z2.length, lo, ← hn.length]; exact hz
    have kp : ∀ b u, h1.get? b = some u → (sortedHeap (h1.push (seqObj "list" its.toArray 0)) h1.objs.size its out.toArray).get? b = some u := fun b u q => by
      have hlt := Heap.lt_size q
      rw [sortedHeap_old (Nat.ne_of_lt hlt) (by rw [size_push']; exact Nat.lt_succ_of_lt hlt)]
      exact Heap.get?_push_of_some _ q
    refine wpAny_pure ⟨_, rfl, ?_⟩
    exact ⟨.ref _, upd H h1.objs.size (.lst zs), I1.laid (t' := s.toks) kp (Nat.le_refl _) ⟨hlen, out, c, z2, hcl2⟩, rfl, q zs _ z1 (I1.hok.fresh (Nat.le_refl _))⟩
/-- all alike, by one look -/
def allAlikeB (ds : List D) : Bool := ds.all fun a => ds.all fun b => PySem.W.alike a b
def isTup1 : D → Bool
  | .tuple (_ :: _) => true
  | _ => false
def notTN : D → Bool
  | .tuple _ => false
  | .none => false
  | _ => true
def sortB (ds : List D) : Bool := allAlikeB ds && (ds.all isTup1 || ds.all notTN) && ds.all SeqAt.shaped
theorem sortB_ok {ds : List D} (h : sortB ds = true) : SortOk ds := by
  simp only [sortB, allAlikeB, Bool.and_eq_true, Bool.or_eq_true, List.all_eq_true] at h
  obtain ⟨⟨h1, h2⟩, h3⟩ := h
  refine ⟨fun d hd e he => h1 d hd e he, ?_, h3⟩
  rcases h2 with h2 | h2
  · refine .inl fun d hd => ?_
    have := h2 d hd
    cases d <;> try (cases this; done)
    rename_i xs
    cases xs with
    | nil => cases this
    | cons x r => exact ⟨x, r, rfl⟩
  · refine .inr fun d hd => ?_
    have := h2 d hd
    cases d <;> first | (cases this; done) | exact ⟨by simp, by simp⟩
/-- the keys of a dict, all texts -/
def keysOf : List (D × D) → Option (List Str)
  | [] => some []
  | (.str k, _) :: r => (keysOf r).map (k :: ·)
  | _ => none
theorem ltC_irr : ∀ a : List Nat, Spec.ltCps a a = false
  | [] => rfl
  | x :: a => by simp [Spec.ltCps, ltC_irr a]
theorem ltC_tri : ∀ a b : List Nat, Spec.ltCps a b = false → Spec.ltCps b a = false → a = b
  | [], [], _, _ => rfl
  | [], _ :: _, h, _ => by cases h
  | _ :: _, [], _, h => by cases h
  | x :: a, y :: b, h1, h2 => by
    simp only [Spec.ltCps, Bool.or_eq_false_iff, Bool.and_eq_false_iff, decide_eq_false_iff_not, beq_eq_false_iff_ne] at h1 h2
    have e : x = y := by omega
    subst e
    rw [ltC_tri a b (h1.2.resolve_left fun z => z rfl) (h2.2.resolve_left fun z => z rfl)]
theorem ltC_trans : ∀ a b c : List Nat, Spec.ltCps a b = true → Spec.ltCps b c = true → Spec.ltCps a c = true
  | [], [], _, h, _ => by cases h
  | _ :: _, [], _, h, _ => by cases h
  | [], _ :: _, [], _, h => by cases h
  | [], _ :: _, _ :: _, _, _ => rfl
  | _ :: _, _ :: _, [], _, h => by cases h
  | x :: a, y :: b, z :: c, h1, h2 => by
    simp only [Spec.ltCps, Bool.or_eq_true, Bool.and_eq_true, decide_eq_true_eq, beq_iff_eq] at h1 h2 ⊢
    rcases h1 with h1 | ⟨e1, h1⟩
    · rcases h2 with h2 | ⟨e2, h2⟩
      · exact .inl (by omega)
      · exact .inl (by omega)
    · rcases h2 with h2 | ⟨e2, h2⟩
      · exact .inl (by omega)
      · exact .inr ⟨by omega, ltC_trans a b c h1 h2⟩
def strLe (a b : Str) : Bool := !Spec.ltCps b.cps.toList a.cps.toList
theorem strLe_trans (a b c : Str) (h1 : strLe a b = true) (h2 : strLe b c = true) : strLe a c = true := by
  unfold strLe at h1 h2 ⊢
  rw [Bool.not_eq_true'] at h1 h2 ⊢
  cases e : Spec.ltCps c.cps.toList a.cps.toList with
  | false => rfl
  | true =>
    cases e2 : Spec.ltCps a.cps.toList b.cps.toList with
    | true => rw [ltC_trans _ _ _ e e2] at h2; cases h2
    | false =>
      have := ltC_tri _ _ e2 h1
      rw [this] at e
      rw [e] at h2; cases h2
theorem strLe_total (a b : Str) : (strLe a b || strLe b a) = true := by
  unfold strLe
  cases e : Spec.ltCps b.cps.toList a.cps.toList with
  | false => rfl
  | true =>
    cases e2 : Spec.ltCps a.cps.toList b.cps.toList with
    | false => rfl
    | true => have := ltC_trans _ _ _ e e2; rw [ltC_irr] at this; cases this
theorem strLe_anti (a b : Str) (h1 : strLe a b = true) (h2 : strLe b a = true) : a = b := by
  unfold strLe at h1 h2
  rw [Bool.not_eq_true'] at h1 h2
  have := ltC_tri _ _ h2 h1
  cases a; cases b
  simp only [Str.mk.injEq]
  exact Array.toList_inj.mp this
def sortS (ks : List Str) : List Str := ks.mergeSort strLe
theorem sortS_pw (ks : List Str) : (sortS ks).Pairwise fun a b => strLe a b = true := List.pairwise_mergeSort strLe_trans strLe_total ks
theorem sortS_perm (ks : List Str) : (sortS ks).Perm ks := List.mergeSort_perm ks strLe
theorem rising_pw : ∀ (ys : List Str) (p : Str), PyProof.Rows.risingS p ys = true → (p :: ys).Pairwise fun a b => strLe a b = true
  | [], p, _ => by simp
  | y :: ys, p, h => by
    simp only [PyProof.Rows.risingS, Bool.and_eq_true, Bool.not_eq_true'] at h
    have ih := rising_pw ys y h.2
    have hpy : strLe p y = true := by unfold strLe; rw [h.1]; rfl
    refine List.pairwise_cons.mpr ⟨fun z hz => ?_, ih⟩
    rcases List.mem_cons.mp hz with rfl | hz
    · exact hpy
    · exact strLe_trans _ _ _ hpy ((List.pairwise_cons.mp ih).1 z hz)
theorem sortS_one {ys ks : List Str} (hp : ys.Perm ks) (hs : PyProof.Rows.sortedS ys = true) : ys = sortS ks := by
  have pw : ys.Pairwise fun a b => strLe a b = true := by
    cases ys with
    | nil => simp
    | cons y ys => exact rising_pw ys y hs
  exact List.Perm.eq_of_pairwise (fun a b _ _ h1 h2 => strLe_anti a b h1 h2) pw (sortS_pw ks) (hp.trans (sortS_perm ks).symm)
theorem keys_dn {K : PySem.W.Frag} {F : Hp} : ∀ {es : List (D × D)} {kvs : List (Key × V)} {ks : List Str}, DnK K F kvs es → keysOf es = some ks → kvs.map (·.1) = ks.map Sum.inr
  | [], _, ks, h, e => by cases h; cases e; rfl
  | (k, v) :: es, _, ks, h, e => by
    cases h with
    | @cons k' v' ks' d' _ h1 h2 =>
      cases k' with
      | inl i => cases e
      | inr x =>
        obtain ⟨r, e1, rfl⟩ := Option.map_eq_some_iff.mp (show (keysOf es).map (x :: ·) = some ks from e)
        rw [List.map_cons, List.map_cons, keys_dn h2 e1]
def rSortD : List V → Hp → VK → Prop := fun xs H Q => ∃ (a : Addr) (kvs : List (Key × V)) (ks : List Str), xs = [.ref a] ∧ Rd H a (.dK kvs) ∧ kvs.map (·.1) = ks.map Sum.inr ∧ ks.length < 64 ∧
    ∀ ys p, ys.Perm ks → PyProof.Rows.sortedS ys = true → H p = none → Q (.ref p) (upd H p (.lst (ys.map V.str)))
def rSortAny (K : PySem.W.Frag) : List V → Hp → VK → Prop := fun xs H Q => rSortX K xs H Q ∨ rSortD xs H Q ∨ rSortT K xs H Q
theorem cr_sortAny (hc : X.calm = true) (hu : X.A.units + 67 < cLine) : CallR X (.builtin "sorted") (rSortAny X.K) := (cr_sortX hu).or ((call_sortedD hc).or (cr_sortT hu))
def sortG : List D → Option D
  | [.list ds] => if sortB ds = true then some (.list (sortL ds)) else none
  | [.dict es] => (keysOf es).bind fun ks => if ks.length < 64 then some (.list ((sortS ks).map .str)) else none
  | [.tuple ds] => if sortB ds = true then some (.list (sortL ds)) else none
  | _ => none
theorem sortG_ok : OpN X.K (rSortAny X.K) sortG := by
  intro F H vs as c Q s bb e k
  have out : ∀ p, H p = none → F p = none := fun p hp => by
    cases z : F p with
    | none => rfl
    | some o => have := s p o z; rw [hp] at this; cases this
  unfold sortG at e
  split at e
  · rename_i ds
    split at e
    · rename_i hs
      cases e
      obtain ⟨v, rfl, b⟩ := bb.one
      obtain ⟨a, us, rfl, h1, h2⟩ := b.list s
      refine .inl ⟨a, us, ds, F, rfl, h1, s, h2, sortB_ok hs, fun zs p hz hp => ?_⟩
      have g2 := Gr.out (o := .lst zs) s hp
      exact k _ _ _ g2 ⟨p, zs, rfl, hp, out p hp, upd_same, hz⟩
    · cases e
  · rename_i es
    obtain ⟨ks, e1, e2⟩ := Option.bind_eq_some_iff.mp e
    split at e2
    · rename_i hl
      cases e2
      obtain ⟨v, rfl, b⟩ := bb.one
      obtain ⟨a, kvs, rfl, h1, h2⟩ := b.dict s
      refine .inr (.inl ⟨a, kvs, ks, rfl, .inl h1, keys_dn h2 e1, hl, fun ys p hp hs hn => ?_⟩)
      have := sortS_one hp hs
      subst this
      have g2 := Gr.out (o := .lst ((sortS ks).map V.str)) s hn
      exact k _ _ _ g2 ⟨p, _, rfl, hn, out p hn, upd_same, dn_strs _⟩
    · cases e2
  · rename_i ds
    split at e
    · rename_i hs
      cases e
      obtain ⟨v, rfl, b⟩ := bb.one
      obtain ⟨a, us, rfl, h1, h2⟩ := b.tuple
      refine .inr (.inr ⟨a, us, ds, F, rfl, seqT_same s h1, s, h2, sortB_ok hs, fun zs p hz hp => ?_⟩)
      have g2 := Gr.out (o := .lst zs) s hp
      exact k _ _ _ g2 ⟨p, zs, rfl, hp, out p hp, upd_same, hz⟩
    · cases e
  · cases e
/-! ### methods of texts with one argument -/
def Mt1 (K : PySem.W.Frag) (r : V → List V → Hp → VK → Prop) (g : D → D → Option D) : Prop := ∀ (F H : Hp) (x y : V) (a b c : D) (Q : VK), Same F H → Br K F H x a → Br K F H y b → g a b = some c → (∀ v F' H', Gr F H F' H' → Owv K H F' H' v c → Q v H') → r x [y] H Q
/-- a text is wanted -/
def asS : D → Res D
  | .str z => .ok (.str z)
  | _ => .bad
def cM1 (g : D → D → Option D) (f h : Env → Res D) : Env → Res D := fun ρ => do
  let a ← f ρ
  let a ← asS a
  let b ← h ρ
  ofO (g a b)
theorem asS_cases (d : D) : (∃ z, d = .str z ∧ asS d = .ok (.str z)) ∨ asS d = .bad := by
  cases d <;> first | exact .inr rfl | exact .inl ⟨_, rfl, rfl⟩
theorem pe_m1O {o e : Expr} {f h : Env → Res D} {id : String} {name : Str} {apos pos : Pos} {r : V → List V → Hp → VK → Prop} {g : D → D → Option D} (slot : Slot "str" name id) (ty : typeOf (.builtin id) = pure (.type "method_descriptor")) (rule : MtR X id r) (m : Mt1 X.K r g)
    (ho : PE X o (xR X W F0 H0 O f)) (he : PE X e (xR X W F0 H0 O h)) (hb : notCall o = true) (hl : (apos.endLine == pos.line) = true) (hs : starEach [e] X.env = [(false, eval e X.env)]) : PE X (.Call (.Attribute o name apos) [e] [] pos) (xO X W F0 H0 O (cM1 g f h)) :=
  PE.of (pe_m1 slot ty rule ho he hs (attr_nc hb _ _ _) hl) fun σ H Q ⟨ρ, F, rel, q⟩ => by
    refine ⟨ρ, F, rel, (RQ.seq q).imp fun d _ q1 v F1 H1 g1 b => ?_⟩
    rcases asS_cases d with ⟨z, rfl, e1⟩ | e1
    · simp only [e1, Res.ok_bind] at q1
      cases b.str
      refine ⟨⟨_, rfl⟩, ρ, F1, rel.grow g1, (RQ.seq q1).later g1.hh fun b2 q2 v2 F2 H2 g2 bb => ?_⟩
      cases e2 : g (.str z) b2 with
      | none => rw [e2] at q2; exact False.elim q2
      | some c =>
        rw [e2] at q2
        exact m F2 H2 _ v2 (.str z) b2 c Q g2.fh (.dn (.str z)) bb e2 fun v F' H' g' w => q2 v F' H' (g1.trans (g2.trans g')) (w.z fun p z => g1.hh.free (g2.hh.free z))
    · simp only [e1, Res.bad_bind] at q1
      exact False.elim q1
def joinD : D → D → Option D
  | .str a, .list ys => (strsOf ys).bind fun zs => if (zs.map (·.length)).sum + zs.length * a.length ≤ 16777216 then some (.str (Txt.join a zs)) else none
  | .str a, .tuple ys => (strsOf ys).bind fun zs => if (zs.map (·.length)).sum + zs.length * a.length ≤ 16777216 then some (.str (Txt.join a zs)) else none
  | _, _ => none
theorem joinD_ok : Mt1 X.K (fun x xs H Q => ∃ a p, ∃ ys : List Str, x = .str a ∧ xs = [.ref p] ∧ (SqL X.K H p (ys.map V.str) ∨ SqT X.K H p (ys.map V.str)) ∧ (ys.map (·.length)).sum + ys.length * a.length ≤ 16777216 ∧ Q (.str (Txt.join a ys)) H) joinD := by
  intro F H x y a b c Q s b1 b2 e k
  unfold joinD at e
  split at e
  · cases b1.str
    obtain ⟨p, us, rfl, h1, h2⟩ := b2.list s
    obtain ⟨zs, e1, e2⟩ := Option.bind_eq_some_iff.mp e
    split at e2
    · rename_i hz
      cases e2
      have := strs_dn h2 e1
      subst this
      exact ⟨_, p, zs, rfl, rfl, .inl h1, hz, k _ F H (Gr.refl s) (.str _)⟩
    · cases e2
  · cases b1.str
    obtain ⟨p, us, rfl, h1, h2⟩ := b2.tuple
    obtain ⟨zs, e1, e2⟩ := Option.bind_eq_some_iff.mp e
    split at e2
    · rename_i hz
      cases e2
      have := strs_dn h2 e1
      subst this
      exact ⟨_, p, zs, rfl, rfl, .inr (seqT_same s h1), hz, k _ F H (Gr.refl s) (.str _)⟩
    · cases e2
  · cases e
def splitD : D → D → Option D
  | .str a, .str b => if (b.length == 0) = false ∧ a.length + 2 ≤ line then some (.list ((Txt.split a b).map .str)) else none
  | _, _ => none
theorem splitD_ok : Mt1 X.K (fun x xs H Q => ∃ a b, x = .str a ∧ xs = [.str b] ∧ (b.length == 0) = false ∧ a.length + 2 ≤ sizeLine ∧ rNewStrs (Txt.split a b) H Q) splitD := by
  intro F H x y a b c Q s b1 b2 e k
  unfold splitD at e
  split at e
  · rename_i za zb
    split at e
    · rename_i hc
      cases e
      cases b1.str
      cases b2.str
      refine ⟨_, _, rfl, rfl, hc.1, by rw [line_eq]; exact hc.2, fun p hp => ?_⟩
      have g2 := Gr.out (o := .lst ((Txt.split za zb).map V.str)) s hp
      refine k _ _ _ g2 ⟨p, _, rfl, hp, ?_, upd_same, dn_strs _⟩
      cases z : F p with
      | none => rfl
      | some o => have := s p o z; rw [hp] at this; cases this
    · cases e
  · cases e
def partD : D → D → Option D
  | .str a, .str b => if (b.length == 0) = false ∧ a.length ≤ line then some (.tuple [.str (Txt.partition a b).1, .str (Txt.partition a b).2.1, .str (Txt.partition a b).2.2]) else none
  | _, _ => none
theorem laid_partsF {X : Cx} {pins : List (Addr × Obj)} {σ : St} {H : Hp} {s : Shared} {Q : VK} {x y z : Str} {t u v : Tok} {k : Nat} (I : Inv X pins σ H s) (h : ∀ (p : Addr) (ob : Obj), H p = none → ob.dict = none → Q (.ref p) (upd H p (.frz ob (.tup [.str x, .str y, .str z])))) :
    EP X pins σ Q (.ref s.heap.objs.size) { s with toks := k, heap := s.heap.push { cls := .type "tuple", data := .seq [Value.str x t, .str y u, .str z v].toArray } } := by
  have hp := I.hok.fresh (Nat.le_refl _)
  exact ⟨.ref s.heap.objs.size, upd H s.heap.objs.size (.frz _ (.tup [.str x, .str y, .str z])), I.laid (fun b u q => Heap.get?_push_of_some _ q) (Nat.le_refl _)
    ⟨Heap.get?_push_size _ rfl, by show 3 ≤ sizeLine; decide, [Value.str x t, .str y u, .str z v], .cons ⟨t, rfl⟩ (.cons ⟨u, rfl⟩ (.cons ⟨v, rfl⟩ .nil)), _, Heap.get?_push_size _ rfl, rfl, _, rfl⟩, rfl, h _ _ hp rfl⟩
theorem mt_partitionF {X : Cx} : MtR X "str.partition" (fun x xs H Q => ∃ a b, x = .str a ∧ xs = [.str b] ∧ (b.length == 0) = false ∧ a.length ≤ sizeLine ∧
    ∀ (p : Addr) (ob : Obj), H p = none → ob.dict = none → Q (.ref p) (upd H p (.frz ob (.tup [.str (Txt.partition a b).1, .str (Txt.partition a b).2.1, .str (Txt.partition a b).2.2])))) := by
  intro pins s σ H x xs v us Q I rx rs h
  obtain ⟨a, b, rfl, rfl, hb, hz, h⟩ := h
  obtain ⟨t, rfl⟩ := rx
  cases rs with
  | cons r1 rs =>
    cases rs
    obtain ⟨u, rfl⟩ := r1
    refine call_meets F.slot_str_partition (typeIs_str _ _ _) F.entry_str_partition (F.args_str_partition_2 _ _) (meets_str_partition a b t u hb hz) ?_
    unfold Txt.partition at h
    revert h
    cases Builtin.Str.occurrences a b 0 a.length 1 with
    | nil => intro h; exact laid_partsF I h
    | cons i r => intro h; exact laid_partsF I h
theorem partD_ok : Mt1 X.K (fun x xs H Q => ∃ a b, x = .str a ∧ xs = [.str b] ∧ (b.length == 0) = false ∧ a.length ≤ sizeLine ∧
    ∀ (p : Addr) (ob : Obj), H p = none → ob.dict = none → Q (.ref p) (upd H p (.frz ob (.tup [.str (Txt.partition a b).1, .str (Txt.partition a b).2.1, .str (Txt.partition a b).2.2])))) partD := by
  intro F H x y a b c Q s b1 b2 e k
  unfold partD at e
  split at e
  · rename_i za zb
    split at e
    · rename_i hc
      cases e
      cases b1.str
      cases b2.str
      refine ⟨_, _, rfl, rfl, hc.1, by rw [line_eq]; exact hc.2, fun p ob hp hob => ?_⟩
      have g2 := Gr.new (o := .frz ob (.tup [.str (Txt.partition za zb).1, .str (Txt.partition za zb).2.1, .str (Txt.partition za zb).2.2])) s hp
      exact k _ _ _ g2 (.tup (.of upd_same hob) (.cons (.str _) (.cons (.str _) (.one (.str _)))))
    · cases e
  · cases e
def findD : D → D → Option D
  | .str a, .str b => some (.int (Txt.find a b))
  | _, _ => none
theorem findD_ok : Mt1 X.K (fun x xs H Q => ∃ a b, x = .str a ∧ xs = [.str b] ∧ Q (.int (Txt.find a b)) H) findD := by
  intro F H x y a b c Q s b1 b2 e k
  unfold findD at e
  split at e
  · cases e
    cases b1.str
    cases b2.str
    exact ⟨_, _, rfl, rfl, k _ F H (Gr.refl s) (.int _)⟩
  · cases e
end
end Ev

set_option Elab.async false
set_option linter.all false
set_option maxRecDepth 100000
set_option maxHeartbeats 4000000
/-! The evaluator, part E5: tuple(d.values()). -/
namespace Ev
open PySem L2 PyProof.Rows
section
variable {prog : Program} {w : World} {A : Around} {E : Value → Shared → Prop} {s : Shared} {T : String} {r d : Addr} {n : Nat} {P : Nat → Value → Prop} {OK : Heap → Prop}
/-- what a source gives, collected -/
theorem collect_src {Q : List Value → Shared → Prop} (K : W.KdlSrc prog w T r d n P OK) (hh : A.handled = none) (hok : OK s.heap) (hn : n ≤ sizeLine)
    (hQ : ∀ (h' : Heap) (tk : Nat) (acc : Array Value), (∀ b o, s.heap.get? b = some o → h'.get? b = some o) → ItemsOf P acc n → Q acc.toList { s with heap := h', toks := tk }) : wpAny (model prog w) A (collect (.ref r)) Q E s := by
  have old : ∀ b o, s.heap.get? b = some o → (s.heap.push { cls := .type "list", data := .seq ([] : List Value).toArray }).get? b = some o := fun b o e => Heap.get?_push_of_some _ e
  have own : (s.heap.push { cls := .type "list", data := .seq ([] : List Value).toArray }).get? s.heap.objs.size = some { cls := .type "list", data := .seq #[] 0 } := Heap.get?_push_size _ rfl
  have lt := K.there _ hok
  unfold collect
  refine wpAny_bind (wpAny_runValue (codeAny_builtin F.entry_proto_collect ?_))
  rw [Around.under_plainId F.plain_proto_collect _]
  refine wpAny_bind (wpAny_newObj_type (wpAny_pure ⟨plainId_quiet F.plain_list_iadd _, codeAny_builtin F.entry_list_iadd ?_⟩))
  rw [Around.under_plainId F.plain_list_iadd _]
  have go := W.kdl_extend (s := { s with heap := s.heap.push { cls := .type "list", data := .seq ([] : List Value).toArray } }) (A := A)
    (R := fun rr s' => rr = .ok (.ret (.ref s.heap.objs.size)) ∧ ∃ (h' : Heap) (tk : Nat) (acc : Array Value) (c' : Nat), s' = { s with heap := h', toks := tk } ∧ (∀ b o, s.heap.get? b = some o → h'.get? b = some o) ∧ h'.get? s.heap.objs.size = some { cls := .type "list", dict := none, data := .seq acc c', slots := #[] } ∧ ItemsOf P acc n)
    K hh (K.keep _ _ hok fun b _ o e => old b o e) s.heap.objs.size (Nat.ne_of_gt lt.1) (Nat.ne_of_gt lt.2) (.ref s.heap.objs.size) 0 own
    (fun h' tk acc c' k e i => ⟨rfl, h', tk, acc, c', rfl, fun b o q => k b o (Nat.ne_of_lt (Heap.lt_size q)) (old b o q), e, i⟩) hn
  refine wpAny_mono go (fun out s' h => ?_) (fun e s' h => absurd h.1 (by simp))
  cases out with
  | done f =>
    obtain ⟨e, h', tk, acc, c', rfl, k, l, i⟩ := h
    cases e
    exact wpAny_bind (wpAny_load l (wpAny_pure (hQ h' tk acc k i)))
  | again c =>
    refine ⟨h.1, codeAny_mono h.2 fun rr s'' hr => ?_⟩
    obtain ⟨rfl, h', tk, acc, c', rfl, k, l, i⟩ := hr
    exact wpAny_bind (wpAny_load l (wpAny_pure (hQ h' tk acc k i)))
/-- tuple(src) -/
theorem new_src {Q₁ : Value → Shared → Prop} (K : W.KdlSrc prog w T r d n P OK) (hh : A.handled = none) (hok : OK s.heap) (hn : n ≤ sizeLine) (nd : T ≠ "tuple")
    (h : ∀ (h' : Heap) (tk : Nat) (acc : Array Value), (∀ b o, s.heap.get? b = some o → h'.get? b = some o) → ItemsOf P acc n → Q₁ (.ref h'.objs.size) { s with heap := h'.push { cls := .type "tuple", data := .seq acc }, toks := tk }) :
    codeAny (model prog w) A (.call (.builtin "tuple.__new__") ⟨[.type "tuple", .ref r], []⟩) (wants Q₁ E) s := by
  refine codeAny_of_tree ?_
  show wpAny _ A.in1 (do checkBuiltinCall "tuple.__new__" ⟨[.type "tuple", .ref r], []⟩; again (.builtin "tuple.__new__" ⟨[.type "tuple", .ref r], []⟩)) _ _ s
  refine wpAny_bind (wpAny_of_eq (F.newCall_tuple_1 _) (wpAny_pure ⟨plainId_quiet F.plain_tuple_new _, codeAny_builtin F.entry_tuple_new ?_⟩))
  rw [Around.under_plainId F.plain_tuple_new _]
  have hsub := sub_tuple_self
  have hinit := init_tuple_lookup
  have hmh := madeHere_tuple
  have hTI : s.TypeIs (.ref r) T := K.type s hok
  have hh1 : A.in1.handled = none := hh
  have hnt := K.notTuple
  have hnl := K.notList
  wp_walk using wpAny_typeOf hTI, collect_src (A := A.in1) K hh1 hok hn
  intro h' tk acc hk hacc
  have e : acc.toList.toArray = acc := by simp
  have hz : acc.size ≤ sizeLine := by rw [hacc.1]; exact hn
  rw [e]
  show wpAny _ _ (Builtin.Tuple.tupleExact acc >>= fun v => ret v) _ _ _
  unfold Builtin.Tuple.tupleExact
  exact wpAny_bind (wpAny_newObj_type (wpAny_pure (h h' tk acc hk hacc)) hz)
theorem call_tuple_src {Q : Value → Shared → Prop} (K : W.KdlSrc prog w T r d n P OK) (hh : A.handled = none) (hok : OK s.heap) (hn : n ≤ sizeLine) (nd : T ≠ "tuple")
    (hQ : ∀ (h' : Heap) (tk : Nat) (acc : Array Value), (∀ b o, s.heap.get? b = some o → h'.get? b = some o) → ItemsOf P acc n → Q (.ref h'.objs.size) { s with heap := h'.push { cls := .type "tuple", data := .seq acc }, toks := tk }) :
    wpAny (model prog w) A (call (.type "tuple") [.ref r]) Q E s := by
  refine callType_codes (Q₁ := fun obj s₁ => s₁.TypeIs obj "tuple" ∧ Q obj s₁) F.called_tuple (F.typeCall_tuple_1 _) F.entry_object_init
    (new_src (A := A.in1) K hh hok hn nd fun h' tk acc hk hacc => ⟨⟨_, Heap.get?_push_size _ rfl, rfl⟩, hQ h' tk acc hk hacc⟩) fun obj s₁ h₁ => ?_
  exact ⟨h₁.1, F.args_object_init_2 obj _, object_init_meets F.called_tuple.init.lookup F.called_tuple.made (by decide) prog w A.in1 _ s₁ ⟨h₁.1, rfl, h₁.2⟩⟩
end
section
variable {X : Cx} {W : WX} {F0 H0 : Hp} {O : List Nat} {o : Expr} {p pos apos mpos : Pos} {td : TE}
theorem kv_at {κ : Type} : ∀ {kvs : List (κ × V)} {vs : List (κ × Value)} {j : Nat} {p : κ × V} {q : κ × Value}, KV kvs vs → kvs[j]? = some p → vs[j]? = some q → p.1 = q.1 ∧ RelV p.2 q.2
  | _, _, 0, _, _, .cons h _, e1, e2 => by
    cases e1; cases e2; exact h
  | _, _, j + 1, _, _, .cons _ t, e1, e2 => kv_at t (by simpa using e1) (by simpa using e2)
/-- tuple(o.values()) -/
def tTupVals (td : TE) : TE := fun σ H Q => td σ H fun x H1 => ∃ a kvs, x = V.ref a ∧ Rd H1 a (.dK kvs) ∧ ∀ (q : Addr) (ob : Obj), H1 q = none → ob.dict = none → Q (.ref q) (upd H1 q (.frz ob (.tup (kvs.map (·.2)))))
theorem pe_tupVals (hc : X.calm = true) (hg : Gl X "tuple") (hm : X.mg "tuple" = none) (hd : PE X o td) (hbase : attributeBase o "values" X.env (eval o X.env) = eval o X.env) (hline : (apos.endLine == mpos.line) = true) :
    PE X (.Call (.Name "tuple" p) [.Call (.Attribute o "values" apos) [] [] mpos] [] pos) (tTupVals td) := by
  have hse : starEach [Expr.Call (.Attribute o "values" apos) [] [] mpos] X.env = [(false, eval (Expr.Call (.Attribute o "values" apos) [] [] mpos) X.env)] := rfl
  refine ⟨fun pins s σ H Q I h => ?_⟩
  refine PyProof.Rows.Call_ (ld_blt I hg hm PyProof.Rows.boot_tuple (PyProof.Rows.callWith_type1 (PyProof.Rows.args_cons ?_ hse) hse))
  refine wpAny_Call_method0_late hbase hline (thn (hd.run pins s σ H _ I h) fun v s1 ⟨x, H1, I1, r1, a, kvs, ex, ha, q⟩ => ?_)
  subst ex
  obtain rfl : v = Value.ref a := r1
  obtain ⟨z, hsys, vs, rel, dof⟩ := dk_rd I1.hok ha
  obtain ⟨ep, dat⟩ := dof.dictAt
  have dat' := dat
  obtain ⟨ob, es, ho, ex, hdat, hko, hpr, hnd⟩ := dat'
  refine ⟨"dict", "dict.values", F.plainAttrs_dict, F.slot_dict_values, F.type_dict_values, ⟨ob, ho, ex.1⟩, fun b e => ?_, Calls.callWith_builtin rfl (PySem.evalArgs_none ?_)⟩
  · cases e
    exact ⟨ob, ho, ex.2.1⟩
  refine call_meetsIn F.slot_dict_values ⟨ob, ho, ex.1⟩ F.entry_dict_values (F.args_dict_values_1 _) (meets_dict_values (mixKind X.prog X.w) a hsys) ⟨⟨vs, dof⟩, ?_⟩
  have k1 : ∀ b u, s1.heap.get? b = some u → (s1.heap.push { cls := .type "dict_values", data := .fields #[.ref a] }).get? b = some u := fun b u e => Heap.get?_push_of_some _ e
  have I2 : Inv X pins σ H1 { s1 with heap := s1.heap.push { cls := .type "dict_values", data := .fields #[.ref a] } } := I1.kept (t' := s1.toks) k1
  have hl : kvs.length = vs.length := Paired.length rel
  refine PyProof.Rows.args_nil (call_tuple_src (n := vs.length) (W.kdl_values (knd := mixKind X.prog X.w) (d := a) (kvs := vs) (ep := ep)) (I2.ok.hd hc) ⟨⟨_, Heap.get?_push_size _ rfl, rfl, rfl⟩, dat.keep k1⟩ (by rw [← hl]; exact z) (by decide) fun h' tk acc hk hacc => ?_)
  have I3 : Inv X pins σ H1 { s1 with heap := h', toks := tk } := I2.kept hk
  have hv : Vals (kvs.map (·.2)) acc.toList := by
    have el : acc.toList.length = vs.length := by rw [Array.length_toList]; exact hacc.1
    have en : (kvs.map (·.2)).length = kvs.length := List.length_map _
    refine vals_of_at (by omega) fun j x u h1 h2 => ?_
    obtain ⟨k, hkj⟩ := hacc.2 j u (by rw [← Array.getElem?_toList]; exact h2)
    rw [List.getElem?_map] at h1
    cases e : kvs[j]? with
    | none => rw [e] at h1; cases h1
    | some kv =>
      rw [e] at h1
      cases h1
      exact (kv_at rel e hkj).2
  refine ⟨.ref h'.objs.size, upd H1 h'.objs.size (.frz _ (.tup (kvs.map (·.2)))), I3.laid (t' := tk) (fun b o e => Heap.get?_push_of_some _ e) (Nat.le_refl _) ⟨Heap.get?_push_size _ rfl, (show ObjOk X.prog X.w _ _ _ (.tup (kvs.map (·.2))) from ⟨by rw [List.length_map]; exact z, acc.toList, hv, ?_⟩)⟩, rfl, q _ _ (I3.hok.fresh (Nat.le_refl _)) rfl⟩
  rw [Array.toArray_toList]
  exact IsTup.new _ _
def tvalsD : D → Option D
  | .dict es => some (.tuple (es.map (·.2)))
  | _ => none
theorem dnk_vals {K : PySem.W.Frag} {F : Hp} : ∀ {es : List (D × D)} {ks : List (Key × V)}, DnK K F ks es → DnL K F (ks.map (·.2)) (es.map (·.2))
  | [], _, h => by cases h; exact .nil
  | _ :: _, _, h => by
    cases h with
    | cons h1 h2 => exact .cons h1 (dnk_vals h2)
theorem pe_tvO {f : Env → Res D} (hc : X.calm = true) (hg : Gl X "tuple") (hm : X.mg "tuple" = none) (ho : PE X o (xR X W F0 H0 O f)) (hb : notCall o = true) (hline : (apos.endLine == mpos.line) = true) :
    PE X (.Call (.Name "tuple" p) [.Call (.Attribute o "values" apos) [] [] mpos] [] pos) (xO X W F0 H0 O (c1 tvalsD f)) :=
  PE.of (pe_tupVals hc hg hm ho (attr_nc hb _ _ _) hline) fun σ H Q ⟨ρ, F, rel, q⟩ => by
    refine ⟨ρ, F, rel, (RQ.seq q).imp fun d _ q1 v F1 H1 g b => ?_⟩
    cases e : tvalsD d with
    | none => rw [e] at q1; exact False.elim q1
    | some c =>
      rw [e] at q1
      unfold tvalsD at e
      split at e
      · cases e
        obtain ⟨a, kvs, rfl, h1, h2⟩ := b.dict g.fh
        refine ⟨a, kvs, rfl, .inl h1, fun p ob hp hob => ?_⟩
        have g2 := Gr.new (o := .frz ob (.tup (kvs.map (·.2)))) g.fh hp
        exact q1 _ _ _ (g.trans g2) (.tup (.of upd_same hob) ((dnk_vals h2).mono g2.ff))
      · cases e
def tvOf (x : Str) : List Expr → Option Expr
  | [.Call (.Attribute o m apos) [] [] mpos] => if x = "tuple" ∧ m = "values" ∧ notCall o = true ∧ (apos.endLine == mpos.line) = true then some o else none
  | _ => none
theorem tvOf_ok {x : Str} {as : List Expr} {o : Expr} (h : tvOf x as = some o) : x = "tuple" ∧ ∃ apos mpos, as = [.Call (.Attribute o "values" apos) [] [] mpos] ∧ notCall o = true ∧ (apos.endLine == mpos.line) = true := by
  unfold tvOf at h
  split at h
  · split at h
    · rename_i hc
      cases h
      obtain ⟨rfl, rfl, h3, h4⟩ := hc
      exact ⟨rfl, _, _, rfl, h3, h4⟩
    · cases h
  · cases h
end
end Ev

set_option Elab.async false
set_option linter.all false
set_option maxRecDepth 100000
set_option maxHeartbeats 4000000
/-! The evaluator, part S1: sets told from lists, by any kind of members. -/
namespace Ev
open PySem PySem.Spec PyProof.Rows L2

/-- what a set leaves to be walked -/
def SetOut {K : Type} (w : World) (h : Heap) (a : Addr) (L : List (Value × K)) : Prop :=
  ∃ (o : Obj) (es : Array (Int × Value)) (ep : Nat) (t : SetTable), h.get? a = some o ∧ o.ExactSet ∧ o.data = .set es ep t ∧ t.fits es.size = true ∧ es.size < scanBound ∧ Ris t.place.toList ∧ (w.params.followText "set-order" = true ∨ t.led = true) ∧
    es.toList.map (·.2) = L.map (·.1) ∧ (L.map (·.2)).Nodup
@[reducible] def newSetO (w : World) : Obj := { cls := .type "set", dict := none, data := .set #[] 0 (.fresh 0 0 (!w.params.followText "set-order")) }
/-- a kind of members, with what adding one does -/
structure SK (P : Program) (w : World) where
  K : Type
  ok : Heap → Value × K → Prop
  rel : Heap → Addr → List (Value × K) → Prop
  room : Nat
  okKeep : ∀ {h h' : Heap} {p : Value × K}, ok h p → (∀ c o, h.get? c = some o → h'.get? c = some o) → ok h' p
  relKeep : ∀ {h h' : Heap} {a : Addr} {L : List (Value × K)}, rel h a L → (∀ o, h.get? a = some o → h'.get? a = some o) → (∀ p ∈ L, ok h' p) → rel h' a L
  fresh : ∀ {h : Heap} {a : Addr}, h.get? a = some (newSetO w) → rel h a []
  add : ∀ {A : Around} {E : Value → Shared → Prop} {s : Shared} {a : Addr} {L : List (Value × K)} {x : Value × K} {Q : Bool → Shared → Prop}, rel s.heap a L → ok s.heap x → A.units + room < cLine → L.length + 1 < 64 →
    (∀ (b : Bool) (h' : Heap) (tk : Nat) (L' : List (Value × K)), Heap.SameBut a s.heap h' → s.toks ≤ tk → rel h' a L' → (x.2 ∈ L.map (·.2) → L' = L) → (x.2 ∉ L.map (·.2) → L'.Perm (x :: L)) → Q b { s with heap := h', toks := tk }) →
    wpAny (model P w) A (setAdd a x.1) Q E s
  out : ∀ {h : Heap} {a : Addr} {L : List (Value × K)}, rel h a L → SetOut w h a L
/-- what has come of the first i -/
structure Has {K : Type} (ks : List (Value × K)) (i : Nat) (L : List (Value × K)) : Prop where
  sub : ∀ p ∈ L, p ∈ ks.take i
  all : ∀ p ∈ ks.take i, p.2 ∈ L.map (·.2)
  len : L.length ≤ i
theorem Has.next {K : Type} {ks L L' : List (Value × K)} {i : Nat} {x : Value × K} (g : Has ks i L) (h : ks[i]? = some x) (c1 : x.2 ∈ L.map (·.2) → L' = L) (c2 : x.2 ∉ L.map (·.2) → L'.Perm (x :: L)) : Has ks (i + 1) L' := by
  have e : ks.take (i + 1) = ks.take i ++ [x] := by rw [List.take_succ, h]; rfl
  rcases Classical.em (x.2 ∈ L.map (·.2)) with m | m
  · rw [c1 m]
    refine ⟨fun p hp => ?_, fun p hp => ?_, Nat.le_succ_of_le g.len⟩
    · rw [e]; exact List.mem_append_left _ (g.sub p hp)
    · rw [e, List.mem_append, List.mem_singleton] at hp
      rcases hp with hp | rfl
      · exact g.all p hp
      · exact m
  · have pm := c2 m
    refine ⟨fun p hp => ?_, fun p hp => ?_, by rw [pm.length_eq]; exact Nat.succ_le_succ g.len⟩
    · rw [e]
      rcases List.mem_cons.mp (pm.mem_iff.mp hp) with z | z
      · rw [z]; exact List.mem_append_right _ (List.mem_singleton.mpr rfl)
      · exact List.mem_append_left _ (g.sub p z)
    · rw [(pm.map (·.2)).mem_iff, List.map_cons]
      rw [e, List.mem_append, List.mem_singleton] at hp
      rcases hp with hp | rfl
      · exact List.mem_cons_of_mem _ (g.all p hp)
      · exact List.mem_cons_self
section
variable {P : Program} {w : World} {A : Around} {E : Value → Shared → Prop} {s : Shared}
theorem upd_run (Z : SK P w) {I : Addr} {fp wr : List Addr} {G : Array GenState → Array GenState → Prop} {n : Nat} {Pv : Nat → Value → Prop} {St : Nat → Shared → Prop} {R : Result → Shared → Prop}
    (W : WalksS P w A.in1 I fp wr G n Pv St) (S : Addr) (hSf : S ∉ fp) (ks : List (Value × Z.K)) (hn : n = ks.length) (hfew : ks.length < 64) (hval : ∀ i v, Pv i v → ∃ p, ks[i]? = some p ∧ v = p.1)
    (h0 : Heap) (hk : ∀ p ∈ ks, Z.ok h0 p) (hS0 : h0.get? S = none) (hw0 : ∀ b ∈ wr, h0.get? b = none) (hu : A.in1.units + Z.room < cLine) :
    ∀ (k i : Nat) (s : Shared) (L : List (Value × Z.K)), n - i = k → i ≤ n → St i s → (∀ b o, h0.get? b = some o → s.heap.get? b = some o) → Z.rel s.heap S L → Has ks i L →
      (∀ s' L, Moved (S :: wr) G s s' → Z.rel s'.heap S L → Has ks n L → (∀ b o, h0.get? b = some o → s'.heap.get? b = some o) → R (.ok (.ret .none)) s') →
      codeAny (model P w) A (.builtin "set.update.loop" ⟨[.ref S, .ref I], []⟩) R s := by
  have hSw : S ∉ wr := fun h => hSf (W.sub _ h)
  have wide : ∀ b ∈ wr, b ∈ S :: wr := fun b hb => List.mem_cons_of_mem _ hb
  have stay : ∀ {s s' : Shared}, Moved wr G s s' → (∀ b o, h0.get? b = some o → s.heap.get? b = some o) → ∀ b o, h0.get? b = some o → s'.heap.get? b = some o := fun hm q b o e =>
    hm.heap b o (fun hb => by rw [hw0 b hb] at e; cases e) (q b o e)
  have inks : ∀ {i : Nat} {L : List (Value × Z.K)}, Has ks i L → ∀ p ∈ L, p ∈ ks := fun g p hp => List.mem_of_mem_take (g.sub p hp)
  intro k
  induction k with
  | zero =>
    intro i s L e hi hst q hS g hR
    obtain rfl : i = n := by omega
    refine codeAny_builtin F.entry_set_update_loop ?_
    rw [Around.under_plainId F.plain_set_update_loop _]
    show wpAny _ A.in1 (pyNext (.ref I) >>= _) _ _ s
    refine wpAny_bind (W.done s _ _ hst fun s' hm => ?_)
    show wpAny _ A.in1 (ret Value.none) _ _ s'
    exact wpAny_pure (hR s' L (hm.mono wide) (Z.relKeep hS (fun o e => hm.heap S o hSw e) fun p hp => Z.okKeep (hk p (inks g p hp)) (stay hm q)) g (stay hm q))
  | succ k ih =>
    intro i s L e hi hst q hS g hR
    have hlt : i < n := by omega
    refine codeAny_builtin F.entry_set_update_loop ?_
    rw [Around.under_plainId F.plain_set_update_loop _]
    show wpAny _ A.in1 (pyNext (.ref I) >>= _) _ _ s
    refine wpAny_bind (W.item i s _ _ hlt hst fun v s' hP hst' hm => ?_)
    obtain ⟨p, hp, rfl⟩ := hval i v hP
    have q' := stay hm q
    have hS' : Z.rel s'.heap S L := Z.relKeep hS (fun o e => hm.heap S o hSw e) fun p hp => Z.okKeep (hk p (inks g p hp)) q'
    show wpAny _ A.in1 (holding [p.1] (setAdd S p.1) >>= _) _ _ s'
    refine wpAny_bind (wpAny_holding (Z.add hS' (Z.okKeep (hk p (List.mem_of_getElem? hp)) q') hu (by have := g.len; omega) fun b h' tk L' sb ht hS2 c1 c2 => ?_))
    have q2 : ∀ b o, h0.get? b = some o → h'.get? b = some o := fun b o e => (sb.2 b (fun z => by rw [z, hS0] at e; cases e)).trans (q' b o e)
    refine wpAny_pure ⟨plainId_quiet F.plain_set_update_loop _, ih (i + 1) _ L' (by omega) hlt (W.frame _ s' _ _ hst' ht fun b hb o e => ?_) q2 hS2 (g.next hp c1 c2) fun s2 L2 m2 r2 g2 k2 => ?_⟩
    · exact (sb.2 b fun z => hSf (z ▸ hb)).trans e
    · refine hR s2 L2 (Moved.trans W.gtrans ((hm.mono wide).then_heap ht fun b o hb e => ?_) m2) r2 g2 k2
      exact (sb.2 b fun z => hb (z ▸ List.mem_cons_self)).trans e
set_option maxHeartbeats 8000000 in
theorem call_setK (Z : SK P w) {l : Addr} {items : Array Value} (ks : List (Value × Z.K)) {Q : Value → Shared → Prop} (hh : A.handled = none) (hl : s.heap.IsList l items) (hit : items.toList = ks.map (·.1)) (hk : ∀ p ∈ ks, Z.ok s.heap p) (hfew : ks.length < 64)
    (hu : A.units + 3 + Z.room < cLine) (h : ∀ (h' : Heap) (tk : Nat) (L : List (Value × Z.K)), Z.rel h' s.heap.objs.size L → Has ks ks.length L → (∀ b o, s.heap.get? b = some o → h'.get? b = some o) → Q (.ref s.heap.objs.size) { s with heap := h', toks := tk }) :
    wpAny (model P w) A (call (.type "set") [.ref l]) Q E s := by
  have hisz : items.size = ks.length := by rw [← Array.length_toList, hit, List.length_map]
  have nS : (s.heap.push (newSetO w)).get? s.heap.objs.size = some (newSetO w) := Heap.get?_push_size _ rfl
  have void : ∀ b, s.heap.objs.size ≤ b → s.heap.get? b = none := fun b hb => by
    cases q : s.heap.get? b with
    | none => rfl
    | some o => exact absurd (Heap.lt_size q) (Nat.not_lt.mpr hb)
  obtain ⟨c, tl, hmro⟩ := F.called_set.mro
  have m1 := F.called_set.made
  have m2 := F.called_set.sub
  refine wpAny_call (codeAny_of_tree ?_)
  show wpAny _ _ (callAny (.type "set") _) _ _ _
  refine wpAny_pure ⟨Code.quiet_builtin _ (by decide +kernel), codeAny_builtin F.entry_type_call ?_⟩
  rw [Around.under_plain (weight_type_call_type "set" [.ref l] []) rfl]
  have m3 := F.called_set.notType
  have m4 := F.called_set.canCreate
  have m5 := F.typeCall_set_1 (.ref l)
  repeat (any_goals (first | assumption | wp_step))
  refine codeAny_mono (code_set_led1 (.ref l) (E := E) (Q₁ := fun obj s₁ => obj = .ref s.heap.objs.size ∧ s₁ = { s with heap := s.heap.push (newSetO w) }) ⟨rfl, rfl⟩) fun r s₁ hr => ?_
  cases r with
  | error e => exact hr
  | ok fl =>
    cases fl with
    | ret obj =>
      obtain ⟨rfl, rfl⟩ := hr
      have hT : Shared.TypeIs { s with heap := s.heap.push (newSetO w) } (.ref s.heap.objs.size) "set" := ⟨_, nS, rfl⟩
      have m6 := F.called_set.init.lookup
      have m7 := F.called_set.init.bind (.ref s.heap.objs.size)
      repeat (any_goals (first | assumption | wp_step))
      refine codeAny_mono (codeAny_call_builtin (R := wants (fun r s₂ => r = .none ∧ ∃ h' tk L, s₂ = { s with heap := h', toks := tk } ∧ Z.rel h' s.heap.objs.size L ∧ Has ks ks.length L ∧
          (∀ b o, s.heap.get? b = some o → h'.get? b = some o)) E) F.called_set.init.plain F.entry_set_init (check_set_init_1 hT ?_)) fun r₂ s₂ hr₂ => ?_
      · obtain ⟨ol, hol, hcl, nl, hdl⟩ := hl
        obtain ⟨ocls, odict, odata, oslots⟩ := ol
        simp only at hcl hdl
        subst hcl; subst hdl
        have hol' : (s.heap.push (newSetO w)).get? l = some { cls := .type "list", dict := odict, data := .seq items nl, slots := oslots } := Heap.get?_push_of_some _ hol
        have s1 := F.sub_list_set
        have s2 := F.sub_list_frozenset
        have s3 : (Value.type "list" == Value.type "dict") = false := by decide
        have hl1 : (s.heap.push (newSetO w)).IsList l items := ⟨_, hol', rfl, nl, rfl⟩
        unfold Builtin.«set.__init__» noKeywords Builtin.Frozenset.updateFrom
        generalize hPI : pyIter = PI
        wp_walk
        subst hPI
        refine wpAny_pyIter_list hl1 ?_
        refine wpAny_bind (wpAny_runValue ?_)
        have hlS : l < s.heap.objs.size := Heap.lt_size hol
        have hz1 : (s.heap.push (newSetO w)).objs.size = s.heap.objs.size + 1 := Heap.size_push ..
        have nI : l ≠ (s.heap.push (newSetO w)).objs.size := by rw [hz1]; exact Nat.ne_of_lt (Nat.lt_succ_of_lt hlS)
        have nF : s.heap.objs.size ∉ [(s.heap.push (newSetO w)).objs.size, l] := by
          simp only [hz1, List.mem_cons, List.not_mem_nil, or_false, not_or]
          exact ⟨Nat.ne_of_lt (Nat.lt_succ_self _), Nat.ne_of_gt hlS⟩
        refine upd_run Z ((Walks.list (A := A.in1.in1.in1) (by simp [hh]) _ l nI items).toS) s.heap.objs.size nF ks hisz hfew (fun i v hv => ?_) s.heap hk (void _ (Nat.le_refl _)) (fun b hb => void b (by
            rw [List.mem_singleton.mp hb, hz1]; exact Nat.le_succ _)) hu (items.size - 0) 0 _ [] (by omega) (Nat.zero_le _)
          ⟨⟨_, Heap.get?_push_size _ rfl, rfl, rfl⟩, (hl1.push _)⟩ (fun b o e => Heap.get?_push_of_some _ (Heap.get?_push_of_some _ e)) (Z.fresh (Heap.get?_push_of_some _ nS)) ⟨fun p h => (by cases h), fun p h => (by simp at h), Nat.le_refl _⟩ ?_
        · have q : items.toList[i]? = some v := by rw [Array.getElem?_toList]; exact hv
          rw [hit, List.getElem?_map] at q
          obtain ⟨p, hp, e⟩ := Option.map_eq_some_iff.mp q
          exact ⟨p, hp, e.symm⟩
        · intro s' L hm hS' g' hkp
          obtain ⟨h', g2, d', tk', os'⟩ := s'
          obtain rfl : g2 = s.gens := hm.gens
          obtain rfl : d' = s.drawn := hm.drawn
          obtain rfl : os' = s.os := hm.os
          show wpAny _ _ _ _ _ _
          refine wpAny_pure ?_
          show wpAny _ _ (ret Value.none) _ _ _
          rw [hisz] at g'
          exact wpAny_pure ⟨rfl, h', tk', L, rfl, hS', g', hkp⟩
      · cases r₂ with
        | error e => exact hr₂
        | ok fl₂ =>
          cases fl₂ with
          | ret r =>
            obtain ⟨rfl, h', tk, L, rfl, hS', g', hk'⟩ := hr₂
            repeat (any_goals (first | assumption | wp_step))
            exact h _ _ _ hS' g' hk'
          | _ => exact hr₂.elim
    | _ => exact hr.elim
end
end Ev

set_option Elab.async false
set_option linter.all false
set_option maxRecDepth 100000
set_option maxHeartbeats 4000000
/-! The evaluator, part S2: members that are told by a scan: whole numbers and texts. -/
namespace Ev
open PySem PySem.Spec PyProof.Rows L2
section
variable {P : Program} {w : World}
def mK (P : Program) (w : World) : PySem.KeyKind P w Key := mixKind P w
theorem mK_scan {k : Key} {v : Value} (h : (mK P w).is k v = true) : v.scannable = true := by
  cases k with
  | inl i => obtain ⟨t, rfl⟩ := Value.isInt_shape (show Value.isInt i v = true from h); rfl
  | inr x =>
    cases v <;> first | rfl | cases h
structure FlatR (P : Program) (w : World) (h : Heap) (a : Addr) (L : List (Value × Key)) : Prop where
  ex : ∃ (o : Obj) (es : Array (Int × Value)) (ep : Nat) (t : SetTable), h.get? a = some o ∧ o.ExactSet ∧ o.data = .set es ep t ∧ t.fits es.size = true ∧ Ris t.place.toList ∧ (w.params.followText "set-order" = true ∨ t.led = true) ∧
    es.toList = L.map fun p => ((mK P w).hash p.2, p.1)
  nd : (L.map (·.2)).Nodup
  is : ∀ p ∈ L, (mK P w).is p.2 p.1 = true
  few : L.length < 64
theorem flat_elems {L : List (Value × Key)} (h : ∀ p ∈ L, (mK P w).is p.2 p.1 = true) : ElemsOf (mK P w) (L.map fun p => ((mK P w).hash p.2, p.1)) := fun e he => by
  obtain ⟨p, hp, rfl⟩ := List.mem_map.mp he
  exact ⟨⟨p.2, h p hp, rfl⟩, mK_scan (h p hp)⟩
theorem flat_mem {L : List (Value × Key)} (h : ∀ p ∈ L, (mK P w).is p.2 p.1 = true) (k : Key) : k ∈ L.map (·.2) ↔ ∃ e ∈ L.map fun p => ((mK P w).hash p.2, p.1), (mK P w).is k e.2 = true := by
  constructor
  · intro hk
    obtain ⟨p, hp, rfl⟩ := List.mem_map.mp hk
    exact ⟨_, List.mem_map.mpr ⟨p, hp, rfl⟩, h p hp⟩
  · rintro ⟨e, he, hk⟩
    obtain ⟨p, hp, rfl⟩ := List.mem_map.mp he
    exact List.mem_map.mpr ⟨p, hp, (mK P w).inj _ _ _ (h p hp) hk⟩
/-- a permuted row of entries is a permuted row of members -/
theorem perm_back {α β : Type} (f : α → β) : ∀ (l : List β) (L : List α), l.Perm (L.map f) → ∃ L' : List α, l = L'.map f ∧ L'.Perm L := by
  intro l
  induction l with
  | nil =>
    intro L h
    have := h.symm.eq_nil
    cases L with
    | nil => exact ⟨[], rfl, .nil⟩
    | cons _ _ => cases this
  | cons x l ih =>
    intro L h
    obtain ⟨a, ha, e⟩ := List.mem_map.mp (h.mem_iff.mp List.mem_cons_self)
    obtain ⟨l1, l2, e2⟩ := List.append_of_mem ha
    subst e2
    have p1 : (l1 ++ a :: l2).Perm (a :: (l1 ++ l2)) := List.perm_middle
    have h2 : (x :: l).Perm (f a :: (l1 ++ l2).map f) := h.trans (p1.map f)
    rw [e] at h2
    obtain ⟨L', e3, p3⟩ := ih _ (List.Perm.cons_inv h2)
    exact ⟨a :: L', by rw [List.map_cons, e, e3], (p3.cons a).trans p1.symm⟩
section
variable {A : Around} {E : Value → Shared → Prop} {s : Shared} {a : Addr} {L : List (Value × Key)} {x : Value × Key}
theorem flat_tail {g : Bool → Sem Unit} (hg : ∀ (b : Bool) (s₁ : Shared) (Q' : Unit → Shared → Prop), Q' () s₁ → wpAny (model P w) A (g b) Q' E s₁)
    {o : Obj} {es : Array (Int × Value)} {ep : Nat} {t : SetTable} (ho : s.heap.get? a = some o) (hex : o.ExactSet) (hd : o.data = .set es ep t)
    {es1 : Array (Int × Value)} {t2 : SetTable} {L1 : List (Value × Key)} (e1 : es1.toList = L1.map fun p => ((mK P w).hash p.2, p.1)) (nd1 : (L1.map (·.2)).Nodup) (i1 : ∀ p ∈ L1, (mK P w).is p.2 p.1 = true) (few : L1.length < 64)
    (f2 : t2.fits es1.size = true) (r2 : Ris t2.place.toList) (l2 : w.params.followText "set-order" = true ∨ t2.led = true) {wd : Bool} {R : Option Bool → Shared → Prop}
    (hR : ∀ h' L', Heap.SameBut a s.heap h' → FlatR P w h' a L' → L'.Perm L1 → R (some true) { s with heap := h' }) :
    wpAny (model P w) A (do
        storeSet a es1 t2
        if (!wd && t2.tooFull) = true then do
            g (relayAll t2 es1 (SetTable.grown es1.size)).2.2
            storeSet a (relayAll t2 es1 (SetTable.grown es1.size)).1 (relayAll t2 es1 (SetTable.grown es1.size)).2.1
            pure (some true)
          else pure (some true)) R E s := by
  have z1 : es1.size = L1.length := by rw [← Array.length_toList, e1, List.length_map]
  refine wpAny_bind (wpAny_storeSet_of ho hd ?_ (by rw [z1, sizeLine_eq]; omega))
  have ho1 := store_at (es' := es1) (t' := t2) ho hd
  have sb1 := Heap.SameBut.update s.heap a (Obj.putSet es1 t2)
  split
  · have pm := relayAll_perm t2 es1 (SetTable.grown es1.size)
    have f3 := relayAll_fits t2 es1 (SetTable.grown es1.size)
    have r3 := relayAll_ris t2 es1 (SetTable.grown es1.size)
    have l3 := relayAll_led t2 es1 (SetTable.grown es1.size)
    generalize relayAll t2 es1 (SetTable.grown es1.size) = Y at pm f3 r3 l3 ⊢
    obtain ⟨es2, t3, gave⟩ := Y
    dsimp only at pm f3 r3 l3 ⊢
    rw [e1] at pm
    obtain ⟨L2, e2, p2⟩ := perm_back _ _ _ pm
    have z2 : es2.size = L1.length := by rw [← Array.length_toList, e2, List.length_map, p2.length_eq]
    refine wpAny_bind (hg _ _ _ ?_)
    refine wpAny_bind (wpAny_storeSet_of ho1 rfl ?_ (by rw [z2, sizeLine_eq]; omega))
    have ho2 := store_at (es' := es2) (t' := t3) ho1 rfl
    refine wpAny_pure (hR _ L2 (sb1.trans (Heap.SameBut.update _ a _)) ?_ p2)
    exact ⟨⟨_, es2, _, t3, ho2, hex, rfl, f3, r3, l2.imp id fun z => by rw [l3]; exact z, e2⟩, (p2.map (·.2)).nodup_iff.mpr nd1, fun p hp => i1 p (p2.mem_iff.mp hp), by rw [p2.length_eq]; exact few⟩
  · exact wpAny_pure (hR _ L1 sb1 ⟨⟨_, es1, _, t2, ho1, hex, rfl, f2, r2, l2, e1⟩, nd1, i1, few⟩ (.refl _))
theorem flat_add {Q : Bool → Shared → Prop} (R : FlatR P w s.heap a L) (hx : (mK P w).is x.2 x.1 = true) (room : L.length + 1 < 64)
    (hQ : ∀ b h' L', Heap.SameBut a s.heap h' → FlatR P w h' a L' → (x.2 ∈ L.map (·.2) → L' = L) → (x.2 ∉ L.map (·.2) → L'.Perm (x :: L)) → Q b { s with heap := h' }) :
    wpAny (model P w) A (setAddHashed a x.1 ((mK P w).hash x.2)) Q E s := by
  obtain ⟨⟨o, es, ep, t, ho, hex, hd, hf, hr, hl, he⟩, nd, his, few⟩ := id R
  obtain ⟨v, k⟩ := x
  dsimp only at hx hQ ⊢
  have hsc := mK_scan hx
  have hel : ElemsOf (mK P w) es.toList := by rw [he]; exact flat_elems his
  have hz : es.size = L.length := by rw [← Array.length_toList, he, List.length_map]
  have hb : es.size < scanBound := by unfold scanBound; omega
  unfold setAddHashed setAddHashedIn
  refine wpAny_holding (wpAny_bind (wpAny_setState_of ho hd hf ?_))
  dsimp only
  rw [byScan_of hsc hb hel]
  simp only [↓reduceIte]
  unfold setAddByScan
  refine wpAny_bind ?_
  refine wpAny_bind (wpAny_rule ?_)
  refine wpAny_bind (wpAny_setScan_of hx ho hd hf hel ?_)
  cases hfi : List.findIdx? (fun e => (mK P w).is k e.2) es.toList with
  | some j =>
    dsimp only
    obtain ⟨hj, pj, _⟩ := List.findIdx?_eq_some_iff_getElem.mp hfi
    have hm : k ∈ L.map (·.2) := (flat_mem his k).2 ⟨es.toList[j], by rw [← he]; exact List.getElem_mem hj, pj⟩
    exact wpAny_pure (wpAny_pure (hQ false s.heap L (Heap.SameBut.refl a s.heap) R (fun _ => rfl) fun z => absurd hm z))
  | none =>
    dsimp only
    have hm : k ∉ L.map (·.2) := fun z => by
      obtain ⟨e, h1, h2⟩ := (flat_mem his k).1 z
      have c := List.findIdx?_eq_none_iff.mp hfi e (by rw [he]; exact h1)
      rw [h2] at c
      cases c
    have gw : ∀ (b : Bool) {s₁ : Shared} {Q' : Unit → Shared → Prop}, Q' () s₁ → wpAny (model P w) A (match b with | true => rule "set.scan.the-table-gave-way" | false => pure ()) Q' E s₁ :=
      fun b s₁ Q' q => by cases b <;> first | exact wpAny_pure q | exact wpAny_rule q
    have pm := layNew_perm t es ((mK P w).hash k) v
    have f1 := layNew_fits t es ((mK P w).hash k) v
    have r1 := layNew_ris t es ((mK P w).hash k) v hr
    have l1 := layNew_led t es ((mK P w).hash k) v
    generalize layNew t es ((mK P w).hash k) v = Y at pm f1 r1 l1 ⊢
    obtain ⟨es1, t1, wd, gave⟩ := Y
    dsimp only at pm f1 r1 l1 ⊢
    rw [Array.toList_push, he] at pm
    have pc : es1.toList.Perm (((v, k) :: L).map fun p => ((mK P w).hash p.2, p.1)) := pm.trans (List.perm_append_singleton _ _)
    obtain ⟨L1, e1, p1⟩ := perm_back _ _ _ pc
    have nd1 : (L1.map (·.2)).Nodup := (p1.map (·.2)).nodup_iff.mpr (by rw [List.map_cons]; exact List.nodup_cons.mpr ⟨hm, nd⟩)
    have i1 : ∀ p ∈ L1, (mK P w).is p.2 p.1 = true := fun p hp => by
      rcases List.mem_cons.mp (p1.mem_iff.mp hp) with z | z
      · rw [z]; exact hx
      · exact his p z
    have few1 : L1.length < 64 := by rw [p1.length_eq]; exact room
    have led : w.params.followText "set-order" = true ∨ t1.led = true := hl.imp id fun z => by rw [l1]; exact z
    have fin : ∀ h' L', Heap.SameBut a s.heap h' → FlatR P w h' a L' → L'.Perm L1 → Q true { s with heap := h' } := fun h' L' sb r p => hQ true h' L' sb r (fun z => absurd z hm) fun _ => p.trans p1
    refine wpAny_bind (gw _ ?_)
    split
    · refine wpAny_bind ?_
      rw [hashByValue_scannable 8 hsc]
      refine wpAny_pure ?_
      refine flat_tail ?_ ho hex hd e1 nd1 i1 few1 ?_ ?_ ?_ ?_
      · intro b s₁ Q' q; cases b <;> first | exact wpAny_pure q | exact wpAny_rule q
      · first | (split <;> first | exact f1 | exact SetTable.fits_plain_off f1) | exact f1
      · first | (split <;> exact r1) | exact r1
      · first | (split <;> exact led) | exact led
      · intro h' L' sb r p; dsimp only; exact wpAny_pure (fin h' L' sb r p)
    · refine wpAny_bind (wpAny_pure ?_)
      simp only [↓reduceIte]
      refine flat_tail ?_ ho hex hd e1 nd1 i1 few1 f1 r1 led ?_
      · intro b s₁ Q' q; cases b <;> first | exact wpAny_pure q | exact wpAny_rule q
      · intro h' L' sb r p; dsimp only; exact wpAny_pure (fin h' L' sb r p)
end
/-- whole numbers and texts as members -/
def flatSK (P : Program) (w : World) : SK P w where
  K := Key
  ok := fun _ p => (mK P w).is p.2 p.1 = true
  rel := FlatR P w
  room := 0
  okKeep := fun h _ => h
  relKeep := fun {h h' a L} R k _ => by
    obtain ⟨⟨o, es, ep, t, ho, r⟩, q1, q2, q3⟩ := R
    exact ⟨⟨o, es, ep, t, k o ho, r⟩, q1, q2, q3⟩
  fresh := fun {h a} ho => ⟨⟨_, #[], 0, _, ho, ⟨rfl, rfl, rfl⟩, rfl, rfl, List.Pairwise.nil, by
    show _ ∨ (!w.params.followText "set-order") = true
    cases w.params.followText "set-order"
    · exact .inr rfl
    · exact .inl rfl, rfl⟩, List.nodup_nil, fun p hp => (by cases hp), by decide⟩
  add := fun {A E s a L x Q} R hx _ room hQ => by
    unfold setAdd
    refine wpAny_holding ?_
    refine wpAny_bind ((mK P w).pyHash hx ?_)
    exact flat_add (s := { s with toks := s.toks + 1 }) R hx room fun b h' L' sb r c1 c2 => hQ b h' _ L' sb (Nat.le_succ _) r c1 c2
  out := fun {h a L} R => by
    obtain ⟨⟨o, es, ep, t, ho, hex, hd, hf, hr, hl, he⟩, nd, his, few⟩ := R
    refine ⟨o, es, ep, t, ho, hex, hd, hf, ?_, hr, hl, ?_, nd⟩
    · rw [← Array.length_toList, he, List.length_map]; unfold scanBound; omega
    · rw [he, List.map_map]; rfl
end
end Ev

set_option Elab.async false
set_option linter.all false
set_option maxRecDepth 100000
set_option maxHeartbeats 4000000
/-! The evaluator, part S3: members that are tuples of numbers, texts and such tuples. -/
namespace Ev
open PySem PySem.Spec PyProof.Rows L2
section
variable {P : Program} {w : World}
/-! ### small questions -/
def ClassAt (P : Program) (w : World) (n : Nat) (s : Shared) (v : Value) : Prop := ∀ (A : Around) (E : Value → Shared → Prop) (Q : Bool → Shared → Prop), Q false s → wpAny (model P w) A (ofAClassStatement n v) Q E s
def HashAt (P : Program) (w : World) (n : Nat) (s : Shared) (v : Value) : Prop := ∀ (A : Around) (E : Value → Shared → Prop) (Q : Bool → Shared → Prop), (∀ b, Q b s) → wpAny (model P w) A (hashByValue n v) Q E s
theorem ClassAt.tuple {n : Nat} {s : Shared} {a : Addr} {o : Obj} {vs : Array Value} {m : Nat} (ho : s.heap.get? a = some o) (hc : o.cls = .type "tuple") (hd : o.data = .seq vs m) (hq : ∀ v ∈ vs.toList, ClassAt P w n s v) : ClassAt P w (n + 1) s (.ref a) := fun A E Q h => by
  have hT : s.TypeIs (.ref a) "tuple" := ⟨o, ho, hc⟩
  unfold ofAClassStatement
  refine wpAny_bind (wpAny_typeOf hT ?_)
  dsimp only
  rw [show (("tuple" : String) == "tuple") = true from by decide]
  simp only [if_true]
  refine wpAny_bind (wpAny_pure ?_)
  simp only [Bool.not_true, Bool.false_eq_true, if_false]
  show wpAny _ _ (seqItems? (.ref a) >>= _) _ _ s
  refine wpAny_bind (wpAny_seqItems ho hd ?_)
  dsimp only
  refine wpAny_bind ?_
  show wpAny _ _ (forIn vs _ _) _ _ s
  rw [← Array.forIn_toList]
  refine wpAny_forIn_list _ (fun rest r s' => r.1 = none ∧ s' = s ∧ ∀ v ∈ rest, ClassAt P w n s v) _ ?_ ?_ _ _ ⟨rfl, rfl, hq⟩
  · rintro v rest r s' ⟨hr, rfl, hall⟩
    refine wpAny_bind (hall v List.mem_cons_self _ _ _ ?_)
    simp only [Bool.false_eq_true, if_false]
    exact wpAny_pure ⟨rfl, rfl, fun u hu => hall u (List.mem_cons_of_mem _ hu)⟩
  · rintro ⟨r1, r2⟩ s' ⟨hr, rfl, _⟩
    obtain rfl : r1 = none := hr
    exact wpAny_pure h
theorem HashAt.tuple {n : Nat} {s : Shared} {a : Addr} {o : Obj} {vs : Array Value} {m : Nat} (ho : s.heap.get? a = some o) (hc : o.cls = .type "tuple") (hd : o.data = .seq vs m) (hq : ∀ v ∈ vs.toList, HashAt P w n s v) : HashAt P w (n + 1) s (.ref a) := fun A E Q h => by
  have hT : s.TypeIs (.ref a) "tuple" := ⟨o, ho, hc⟩
  unfold hashByValue
  refine wpAny_bind (wpAny_specialOf hT F.slot_tuple_hash.lookup ?_)
  show wpAny _ _ (seqItems? (.ref a) >>= _) _ _ s
  refine wpAny_bind (wpAny_seqItems ho hd ?_)
  refine wpAny_bind ?_
  show wpAny _ _ (forIn vs _ _) _ _ s
  rw [← Array.forIn_toList]
  refine wpAny_forIn_list _ (fun rest r s' => s' = s ∧ ∀ v ∈ rest, HashAt P w n s v) _ ?_ ?_ _ _ ⟨rfl, hq⟩
  · rintro v rest r s' ⟨rfl, hall⟩
    refine wpAny_bind (hall v List.mem_cons_self _ _ _ fun b => ?_)
    cases b
    · simp only [Bool.not_false, if_true]
      exact wpAny_pure (wpAny_pure (h _))
    · simp only [Bool.not_true, Bool.false_eq_true, if_false]
      exact wpAny_pure ⟨rfl, fun u hu => hall u (List.mem_cons_of_mem _ hu)⟩
  · rintro ⟨r1, r2⟩ s' ⟨rfl, _⟩
    cases r1 with
    | none => exact wpAny_pure (h _)
    | some b => exact wpAny_pure (h _)
mutual
theorem class_key : ∀ (k : NestedKey) (v : Value) (n : Nat) (s : Shared), NestedIs s.heap k v → k.depth ≤ n → ClassAt P w n s v
  | .none, _, n, s, x, _ => by cases x; cases n <;> exact fun A E Q h => wpAny_pure h
  | .num i, _, n, s, x, _ => by cases x <;> cases n <;> exact fun A E Q h => wpAny_pure h
  | .text y, _, n, s, x, _ => by cases x; cases n <;> exact fun A E Q h => wpAny_pure h
  | .tup ks, _, n, s, x, hn => by
    cases x with
    | tup hg hc hd hk =>
      simp only [NestedKey.depth] at hn
      cases n with
      | zero => omega
      | succ n => exact .tuple hg hc hd (class_keys ks _ n s hk (by omega))
theorem class_keys : ∀ (ks : List NestedKey) (vs : List Value) (n : Nat) (s : Shared), NestedAll s.heap ks vs → NestedKey.depthAll ks ≤ n → ∀ v ∈ vs, ClassAt P w n s v
  | [], _, n, s, x, _, v, hv => by cases x; cases hv
  | k :: ks, _, n, s, x, hn, v, hv => by
    cases x with
    | cons x1 x2 =>
      simp only [NestedKey.depthAll] at hn
      rcases List.mem_cons.mp hv with e | hv
      · rw [e]; exact class_key k _ n s x1 (by omega)
      · exact class_keys ks _ n s x2 (by omega) v hv
end
mutual
theorem hash_key : ∀ (k : NestedKey) (v : Value) (n : Nat) (s : Shared), NestedIs s.heap k v → k.depth ≤ n → HashAt P w n s v
  | .none, _, n, s, x, _ => by cases x; cases n <;> exact fun A E Q h => wpAny_pure (h _)
  | .num i, _, n, s, x, _ => by cases x <;> cases n <;> exact fun A E Q h => wpAny_pure (h _)
  | .text y, _, n, s, x, _ => by cases x; cases n <;> exact fun A E Q h => wpAny_pure (h _)
  | .tup ks, _, n, s, x, hn => by
    cases x with
    | tup hg hc hd hk =>
      simp only [NestedKey.depth] at hn
      cases n with
      | zero => omega
      | succ n => exact .tuple hg hc hd (hash_keys ks _ n s hk (by omega))
theorem hash_keys : ∀ (ks : List NestedKey) (vs : List Value) (n : Nat) (s : Shared), NestedAll s.heap ks vs → NestedKey.depthAll ks ≤ n → ∀ v ∈ vs, HashAt P w n s v
  | [], _, n, s, x, _, v, hv => by cases x; cases hv
  | k :: ks, _, n, s, x, hn, v, hv => by
    cases x with
    | cons x1 x2 =>
      simp only [NestedKey.depthAll] at hn
      rcases List.mem_cons.mp hv with e | hv
      · rw [e]; exact hash_key k _ n s x1 (by omega)
      · exact hash_keys ks _ n s x2 (by omega) v hv
end
/-! ### the members -/
def TupIs (h : Heap) (p : Value × NestedKey) : Prop := NestedIs h p.2 p.1 ∧ p.2.depth ≤ 8 ∧ ∃ b, p.1 = Value.ref b
def ent (w : World) (p : Value × NestedKey) : Int × Value := (p.2.hash w, p.1)
theorem tup_keep {h h' : Heap} {p : Value × NestedKey} (x : TupIs h p) (k : ∀ c o, h.get? c = some o → h'.get? c = some o) : TupIs h' p := ⟨NestedIs.at (fun a o _ _ e _ => k a o e) _ _ x.1, x.2⟩
theorem tup_but {h h' : Heap} {p : Value × NestedKey} {a : Addr} {o : Obj} {es : Array (Int × Value)} {ep : Nat} {t : SetTable} (x : TupIs h p) (ho : h.get? a = some o) (hd : o.data = .set es ep t) (sb : Heap.SameBut a h h') : TupIs h' p :=
  ⟨NestedIs.at (fun b ob vs n e e2 => (sb.2 b fun z => by
    rw [z, ho] at e
    cases e
    rw [hd] at e2
    cases e2).trans e) _ _ x.1, x.2⟩
theorem seen_key {A : Around} {E : Value → Shared → Prop} {s : Shared} {p : Value × NestedKey} (hx : TupIs s.heap p) {ys : List Value} (hy : ∀ y ∈ ys, ∃ q, q.1 = y ∧ TupIs s.heap q) {Q : Bool → Shared → Prop} (h : Q false s) : wpAny (model P w) A (searchCouldBeSeen p.1 ys) Q E s := by
  unfold searchCouldBeSeen
  refine wpAny_bind (wpAny_forIn_list _ (fun rest r s' => r.1 = none ∧ s' = s ∧ ∀ y ∈ rest, ∃ q, q.1 = y ∧ TupIs s.heap q) _ ?_ ?_ _ _ ⟨rfl, rfl, hy⟩)
  · rintro v rest r s' ⟨hr, rfl, hall⟩
    obtain ⟨q, rfl, hq⟩ := hall v List.mem_cons_self
    have more : ∀ y ∈ rest, ∃ q, q.1 = y ∧ TupIs s'.heap q := fun u hu => hall u (List.mem_cons_of_mem _ hu)
    obtain ⟨b, e⟩ := hx.2.2
    obtain ⟨c, e2⟩ := hq.2.2
    have hx1 := hx.1
    have hq1 := hq.1
    rw [e] at hx1 ⊢
    rw [e2] at hq1 ⊢
    dsimp only
    by_cases hv : (b == c || (carriedByValue (.ref b) && carriedByValue (.ref c))) = true
    · exact wp_if_pos hv (wpAny_pure ⟨rfl, rfl, more⟩)
    · refine wp_if_neg hv ?_
      refine wpAny_bind (quiet_key _ _ 8 _ hx1 hx.2.1 _ _ _ ?_)
      simp only [Bool.not_true, Bool.false_eq_true, if_false]
      refine wpAny_bind (quiet_key _ _ 8 _ hq1 hq.2.1 _ _ _ ?_)
      simp only [Bool.not_true, Bool.false_eq_true, if_false]
      refine wpAny_bind (class_key _ _ 8 _ hx1 hx.2.1 _ _ _ ?_)
      simp only [Bool.false_eq_true, if_false]
      refine wpAny_bind (class_key _ _ 8 _ hq1 hq.2.1 _ _ _ ?_)
      simp only [Bool.false_eq_true, if_false]
      exact wpAny_pure ⟨rfl, rfl, more⟩
  · rintro ⟨r1, r2⟩ s' ⟨hr, rfl, _⟩
    obtain rfl : r1 = none := hr
    exact wpAny_pure h
/-! ### the table -/
structure TupR (P : Program) (w : World) (h : Heap) (a : Addr) (L : List (Value × NestedKey)) (o : Obj) (es : Array (Int × Value)) (ep : Nat) (t : SetTable) : Prop where
  at' : h.get? a = some o
  ex : o.ExactSet
  data : o.data = .set es ep t
  rows : es.toList = L.map (ent w)
  tab : TabOk t (L.map fun p => p.2.hash w)
  led : w.params.followText "set-order" = true ∨ t.led = true
  room : L.length * 5 < t.mask * 3
  nd : (L.map (·.2)).Nodup
  is : ∀ p ∈ L, TupIs h p
  few : L.length < 64
def TupS (P : Program) (w : World) (h : Heap) (a : Addr) (L : List (Value × NestedKey)) : Prop := ∃ o es ep t, TupR P w h a L o es ep t
variable {A : Around} {E : Value → Shared → Prop} {s : Shared} {a : Addr} {L : List (Value × NestedKey)} {o : Obj} {es : Array (Int × Value)} {ep : Nat} {t : SetTable}
theorem TupR.size {h : Heap} (R : TupR P w h a L o es ep t) : es.size = L.length := by rw [← Array.length_toList, R.rows, List.length_map]
theorem TupR.fits {h : Heap} (R : TupR P w h a L o es ep t) : t.fits es.size = true := by
  have h1 := R.tab.sz
  rw [List.length_map] at h1
  have h2 := R.size
  have h3 := R.room
  unfold SetTable.fits SetTable.fill
  rw [R.tab.dm, Bool.and_eq_true, beq_iff_eq, decide_eq_true_eq]
  show t.place.size = es.size ∧ t.place.size + 0 ≤ t.mask
  omega
theorem TupR.entry {h0 : Heap} (R : TupR P w h0 a L o es ep t) {i : Nat} {p : Value × NestedKey} (h : L[i]? = some p) : es[i]? = some (ent w p) := by
  rw [← Array.getElem?_toList, R.rows, List.getElem?_map, h]; rfl
theorem TupR.whole {h : Heap} (R : TupR P w h a L o es ep t) : ¬ t.gaveWay = true := by
  unfold SetTable.gaveWay
  rw [mask_odd R.tab.mok]
  decide
/-- the way's states -/
def stp (m : Nat) (h : Int) (c : Nat) : SetTable.Probe := nth m (runAt m (SetTable.bits h % (m + 1)) (SetTable.bits h)) c
theorem stp_j (m : Nat) (h : Int) (c : Nat) : (stp m h c).j = way m h c := rfl
theorem stp_add (m : Nat) (h : Int) (c q : Nat) : nth m (stp m h c) q = stp m h (c + q) := (nth_add m c _ q).symm
theorem nth_dummy (m : Nat) : ∀ (n : Nat) (p : SetTable.Probe), p.dummy = none → (nth m p n).dummy = none
  | 0, p, h => h
  | n + 1, p, h => nth_dummy m n (adv m p) (by unfold adv; split <;> exact h)
theorem stp_dummy (m : Nat) (h : Int) (c : Nat) : (stp m h c).dummy = none := nth_dummy m c _ rfl
/-- the search, from the c-th state on: x is a member or the first empty slot is told -/
theorem look_from (R : TupR P w s.heap a L o es ep t) {x : Value × NestedKey} (hx : TupIs s.heap x) (hu : A.units + 8 < cLine) {K : Nat} (hKf : K < 10 * SetTable.turns t.mask)
    (hK : way t.mask (x.2.hash w) K ∉ t.place.toList) (hKb : ∀ c, c < K → way t.mask (x.2.hash w) c ∈ t.place.toList) {Q : SetFound → Shared → Prop}
    (hin : x.2 ∈ L.map (·.2) → Q (.there none) s) (hout : x.2 ∉ L.map (·.2) → Q (.free (way t.mask (x.2.hash w) K) false) s) :
    ∀ (f c : Nat) (st : Option SetTable.Probe), st.getD (t.probeStart (x.2.hash w)) = stp t.mask (x.2.hash w) c → c ≤ K → K - c < f →
      (∀ (i : Nat) p, L[i]? = some p → p.2 = x.2 → ∃ c', c ≤ c' ∧ c' < K ∧ t.place.toList[i]? = some (way t.mask (x.2.hash w) c')) →
      wpAny (model P w) A (setSearchFrom a x.1 (x.2.hash w) true f st) Q E s := by
  intro f
  induction f with
  | zero => intro c st _ _ hf; exact absurd hf (Nat.not_lt_zero _)
  | succ f ih =>
    intro c st hst hc hf hre
    have hashAt : ∀ (i : Nat) p, L[i]? = some p → (es[i]?.map (·.1)).getD 0 = p.2.hash w := fun i p hp => by rw [R.entry hp]; rfl
    rw [setSearchFrom_succ]
    refine wpAny_bind (wpAny_setState_of R.at' R.data R.fits ?_)
    dsimp only
    refine wp_if_neg R.whole ?_
    try refine wpAny_bind (wpAny_pure ?_)
    have spec := go_spec t R.tab.ris R.tab.dm (fun i => (es[i]?.map (·.1)).getD 0) (x.2.hash w) (10 * SetTable.turns t.mask) (K - c) (stp t.mask (x.2.hash w) c) (stp_dummy ..) (by omega)
      (fun q hq => by rw [stp_add, stp_j]; exact hKb (c + q) (by omega)) (by rw [stp_add, stp_j, show c + (K - c) = K by omega]; exact hK)
    have goes : t.probe (fun i => (es[i]?.map (·.1)).getD 0) (x.2.hash w) (st.getD (t.probeStart (x.2.hash w))) = SetTable.probe.go t (fun i => (es[i]?.map (·.1)).getD 0) (x.2.hash w) (10 * SetTable.turns t.mask) (stp t.mask (x.2.hash w) c) := by
      rw [hst]; rfl
    rw [goes]
    rcases spec with ⟨q, i, hq, hi, hh, hno, hpr⟩ | ⟨hno, hpr⟩
    · rw [stp_add, stp_j] at hi
      rw [hpr]
      dsimp only
      rw [stp_add, stp_add, stp_j]
      have hil : i < L.length := by
        have h1 : i < t.place.toList.length := (List.getElem?_eq_some_iff.mp hi).1
        have h2 := R.tab.sz
        rw [List.length_map] at h2
        rw [Array.length_toList] at h1
        omega
      obtain ⟨p, hp⟩ : ∃ p, L[i]? = some p := ⟨_, List.getElem?_eq_getElem hil⟩
      have hm : p ∈ L := List.mem_of_getElem? hp
      have rest : wpAny (model P w) A (searchRest a x.1 (x.2.hash w) true f es t (way t.mask (x.2.hash w) (c + q)) i (stp t.mask (x.2.hash w) (c + (q + 1)))) Q E s := by
        unfold searchRest
        rw [R.entry hp]
        dsimp only [ent]
        have eqs := eqAt_key p.2 x.2 A s p.1 x.1 (R.is p hm).1 hx.1 (by have := (R.is p hm).2.1; have := hx.2.1; omega)
        refine wpAny_bind (wpAny_holding (eqs _ _ _ _ ?_))
        refine wpAny_bind (wpAny_setState_of R.at' R.data R.fits ?_)
        dsimp only
        by_cases hkk : p.2 = x.2
        · refine wp_if_pos (by rw [hkk, NestedKey.beq_self]; rfl) ?_
          exact wpAny_pure (hin (List.mem_map.mpr ⟨p, hm, hkk⟩))
        · have hne : NestedKey.beq p.2 x.2 = false := by
            rw [← NestedKey.decide_eq]; exact decide_eq_false hkk
          rw [hne]
          refine wp_if_neg (by decide) ?_
          try refine wpAny_bind (wpAny_pure ?_)
          rw [sameMem]
          dsimp only
          have hsl : t.slot (way t.mask (x.2.hash w) (c + q)) = .live i := slot_live R.tab.ris hi
          simp only [if_true, hsl, R.entry hp, ent]
          obtain ⟨b, eb⟩ := (R.is p hm).2.2
          rw [eb]
          refine wpAny_bind (wpAny_isSame_ref_self (wpAny_bind (wpAny_pure ?_)))
          simp only [if_true]
          refine wp_if_neg (by decide) ?_
          refine ih (c + (q + 1)) _ rfl (by omega) (by omega) fun i0 p0 h0 hk0 => ?_
          obtain ⟨c', a1, a2, a3⟩ := hre i0 p0 h0 hk0
          refine ⟨c', ?_, a2, a3⟩
          rcases Nat.lt_trichotomy c' (c + q) with z | z | z
          · exfalso
            refine hno (c' - c) i0 (by omega) (by rw [stp_add, stp_j, show c + (c' - c) = c' by omega]; exact a3) ?_
            exact (hashAt i0 p0 h0).trans (by rw [hk0])
          · exfalso
            rw [z] at a3
            have s0 := slot_live R.tab.ris a3
            rw [hsl] at s0
            injection s0 with s0
            rw [← s0, hp] at h0
            exact hkk ((congrArg Prod.snd (Option.some.inj h0)).trans hk0)
          · omega
      by_cases hl : t.led = true
      · refine wp_if_neg (by simp [hl]) ?_
        try refine wpAny_bind (wpAny_pure ?_)
        exact rest
      · refine wp_if_pos (by simp [hl]) ?_
        refine wpAny_bind (seen_key hx (fun y hy => ?_) ?_)
        · obtain ⟨e, he, ee⟩ := List.mem_map.mp hy
          have he1 : e ∈ es ∧ e.1 = x.2.hash w := by simpa using he
          have he2 : e ∈ es.toList := by simpa using he1.1
          rw [R.rows] at he2
          obtain ⟨p2, hp2, e2⟩ := List.mem_map.mp he2
          exact ⟨p2, by rw [← ee, ← e2]; rfl, R.is p2 hp2⟩
        · refine wp_if_neg (by decide) ?_
          try refine wpAny_bind (wpAny_pure ?_)
          exact rest
    · rw [hpr]
      dsimp only
      rw [stp_add, stp_j, show c + (K - c) = K by omega]
      refine wpAny_pure (hout fun hm => ?_)
      obtain ⟨p0, h0, hk0⟩ := List.mem_map.mp hm
      obtain ⟨i0, hi0, e0⟩ := List.getElem_of_mem h0
      have h00 : L[i0]? = some p0 := by rw [List.getElem?_eq_getElem hi0, e0]
      obtain ⟨c', a1, a2, a3⟩ := hre i0 p0 h00 hk0
      refine hno (c' - c) i0 (by omega) (by rw [stp_add, stp_j, show c + (c' - c) = c' by omega]; exact a3) ?_
      exact (hashAt i0 p0 h00).trans (by rw [hk0])
theorem look (R : TupR P w s.heap a L o es ep t) {x : Value × NestedKey} (hx : TupIs s.heap x) (hu : A.units + 8 < cLine) {Q : SetFound → Shared → Prop} (hin : x.2 ∈ L.map (·.2) → Q (.there none) s)
    (hout : ∀ K, x.2 ∉ L.map (·.2) → way t.mask (x.2.hash w) K ∉ t.place.toList → (∀ c, c < K → way t.mask (x.2.hash w) c ∈ t.place.toList) → Q (.free (way t.mask (x.2.hash w) K) false) s) :
    wpAny (model P w) A (setSearch a x.1 (x.2.hash w) true) Q E s := by
  have hroom := R.room
  obtain ⟨K, hKf, hK, hKb⟩ := R.tab.first (by rw [List.length_map]; omega) (x.2.hash w)
  have hbig : 10 * SetTable.turns t.mask ≤ 1420 := by
    unfold SetTable.turns
    rcases R.tab.mok with e | e | e <;> omega
  unfold setSearch
  refine look_from R hx hu hKf hK hKb hin (fun hn => hout K hn hK hKb) 100000 0 none rfl (Nat.zero_le _) (by omega) fun i p hp hk => ?_
  have hi : (L.map fun p => p.2.hash w)[i]? = some (x.2.hash w) := by rw [List.getElem?_map, hp, ← hk]; rfl
  have hil : i < t.place.toList.length := by
    have h1 : i < L.length := (List.getElem?_eq_some_iff.mp hp).1
    have h2 := R.tab.sz
    rw [List.length_map] at h2
    rw [Array.length_toList]
    omega
  have hj := List.getElem?_eq_getElem hil
  obtain ⟨c, hc, e⟩ := R.tab.before hK hi hj
  exact ⟨c, Nat.zero_le _, hc, by rw [hj, e]⟩
end
end Ev

set_option Elab.async false
set_option linter.all false
set_option maxRecDepth 100000
set_option maxHeartbeats 4000000
/-! The evaluator, part S4: tuples put into a set. -/
namespace Ev
open PySem PySem.Spec PyProof.Rows L2
section
variable {P : Program} {w : World}
theorem picked_range {α : Type} (L : List α) : (List.range L.length).filterMap (fun i => L[i]?) = L := by
  have key : ∀ n, n ≤ L.length → (List.range n).filterMap (fun i => L[i]?) = L.take n := by
    intro n
    induction n with
    | zero => intro _; rfl
    | succ n ih =>
      intro hn
      rw [List.range_succ, List.filterMap_append, ih (Nat.le_of_succ_le hn), List.take_succ, List.getElem?_eq_getElem hn, List.filterMap_cons_some (List.getElem?_eq_getElem hn)]
      rfl
  rw [key L.length (Nat.le_refl _), List.take_length]
theorem picked_of {L : List (Value × NestedKey)} {es : Array (Int × Value)} (hr : es.toList = L.map (ent w)) : ∀ (l : List Nat), (∀ i ∈ l, i < L.length) →
    l.filterMap (fun i => es[i]?) = (l.filterMap fun i => L[i]?).map (ent w) ∧ ((l.filterMap fun i => L[i]?).map fun p => p.2.hash w) = l.map fun i => (es.map (·.1)).getD i 0
  | [], _ => ⟨rfl, rfl⟩
  | i :: l, h => by
    have hi := h i List.mem_cons_self
    obtain ⟨i1, i2⟩ := picked_of hr l fun j hj => h j (List.mem_cons_of_mem _ hj)
    have e1 : L[i]? = some L[i] := List.getElem?_eq_getElem hi
    have e2 : es[i]? = some (ent w L[i]) := by rw [← Array.getElem?_toList, hr, List.getElem?_map, e1]; rfl
    have e3 : (es.map (·.1)).getD i 0 = (L[i]).2.hash w := by
      have q : (es.map (·.1))[i]? = some ((L[i]).2.hash w) := by rw [Array.getElem?_map, e2]; rfl
      simp [Array.getD_eq_getD_getElem?, q]
    constructor
    · rw [List.filterMap_cons_some e2, List.filterMap_cons_some e1, List.map_cons, i1]
    · rw [List.filterMap_cons_some e1, List.map_cons, List.map_cons, i2, e3]
variable {A : Around} {E : Value → Shared → Prop} {s : Shared} {a : Addr} {L : List (Value × NestedKey)} {o : Obj} {es : Array (Int × Value)} {ep : Nat} {t : SetTable}
/-- the table laid anew -/
theorem tup_relay (ho : s.heap.get? a = some o) (hex : o.ExactSet) (hd : o.data = .set es ep t) (hrows : es.toList = L.map (ent w)) (hsz : t.place.size = L.length) (hdm : t.dummies = #[]) (hfl : L.length ≤ t.mask) (nd : (L.map (·.2)).Nodup) (his : ∀ p ∈ L, TupIs s.heap p)
    (ld : w.params.followText "set-order" = true ∨ t.led = true) (few : L.length < 64) {wanted M : Nat} (hw : SetTable.sizeAbove wanted - 1 = M) (hM : MaskOk M) (hw2 : SetTable.sizeAbove wanted ≤ 128) (hn : L.length * 5 < M * 3) {Q : Unit → Shared → Prop}
    (hQ : ∀ h' L', Heap.SameBut a s.heap h' → TupS P w h' a L' → L'.Perm L → Q () { s with heap := h' }) : wpAny (model P w) A (setRelay a wanted) Q E s := by
  have z : es.size = L.length := by rw [← Array.length_toList, hrows, List.length_map]
  have hf : t.fits es.size = true := by
    unfold SetTable.fits SetTable.fill
    rw [hdm, Bool.and_eq_true, beq_iff_eq, decide_eq_true_eq, z]
    show t.place.size = L.length ∧ t.place.size + 0 ≤ t.mask
    omega
  obtain ⟨t', order, e, hp, T, em, el, _, _⟩ := relaid_ok t (hs := es.map (·.1)) (wanted := wanted) hw hM (by rw [Array.size_map, z]; omega)
  rw [Array.size_map, z] at hp
  obtain ⟨r1, r2⟩ := picked_of hrows order.toList fun i hi => List.mem_range.mp (hp.mem_iff.mp hi)
  have r3 : (order.toList.filterMap fun i => L[i]?).Perm L := (hp.filterMap _).trans (by rw [picked_range])
  rw [← r2] at T
  have r4 : (order.filterMap (es[·]?)).toList = (order.toList.filterMap fun i => L[i]?).map (ent w) := by rw [← r1]; simp
  generalize (order.toList.filterMap fun i => L[i]?) = L2 at r3 r4 T
  have z2 : (order.filterMap (es[·]?)).size = L.length := by rw [← Array.length_toList, r4, List.length_map, r3.length_eq]
  rw [setRelay_eq]
  refine wpAny_bind (wpAny_setState_of ho hd hf ?_)
  dsimp only
  refine wp_if_neg (by rw [sizeLine_eq]; omega) ?_
  try refine wpAny_bind (wpAny_pure ?_)
  rw [e]
  dsimp only
  refine wpAny_bind ?_
  refine wp_if_neg (by rw [z2, z]; simp) ?_
  try refine wpAny_bind (wpAny_pure ?_)
  refine wpAny_pure ?_
  dsimp only
  refine wpAny_storeSet_of ho hd ?_ (by rw [z2, sizeLine_eq]; omega)
  have sb : Heap.SameBut a s.heap (s.heap.update a (Obj.putSet (order.filterMap (es[·]?)) t')) := Heap.SameBut.update ..
  refine hQ _ L2 sb ?_ r3
  exact ⟨_, _, _, t', store_at ho hd, ⟨hex.1, hex.2.1, hex.2.2⟩, rfl, r4, T, by rw [el]; exact ld, by rw [r3.length_eq, em]; exact hn, (r3.map (·.2)).nodup_iff.mpr nd, fun p h => tup_but (his p (r3.mem_iff.mp h)) ho hd sb, by rw [r3.length_eq]; exact few⟩
theorem tab_plain {t : SetTable} {hs : List Int} (T : TabOk t hs) (b : Bool) : TabOk { t with plain := b } hs := ⟨T.ris, T.dm, T.sz, T.mok, T.bd, T.reach⟩
/-- one put in -/
theorem tup_add {x : Value × NestedKey} (R : TupR P w s.heap a L o es ep t) (hx : TupIs s.heap x) (hu : A.units + 8 < cLine) (few1 : L.length + 1 < 64) {Q : Bool → Shared → Prop}
    (hQ : ∀ b h' L', Heap.SameBut a s.heap h' → TupS P w h' a L' → (x.2 ∈ L.map (·.2) → L' = L) → (x.2 ∉ L.map (·.2) → L'.Perm (x :: L)) → Q b { s with heap := h' }) :
    wpAny (model P w) A (setAddHashed a x.1 (x.2.hash w)) Q E s := by
  have hz := R.size
  have hroom := R.room
  unfold setAddHashed
  refine wpAny_holding ?_
  rw [show (100000 : Nat) = 99999 + 1 from rfl, setAddHashedIn_succ]
  refine wpAny_bind (wpAny_setState_of R.at' R.data R.fits ?_)
  dsimp only
  refine wp_if_neg (by obtain ⟨b, e⟩ := hx.2.2; rw [e]; simp [byScan, Value.scannable]) ?_
  try refine wpAny_bind (wpAny_pure ?_)
  refine wpAny_bind (look R hx hu (fun hm => ?_) fun K hm hK hb => ?_)
  · dsimp only
    exact wpAny_pure (hQ false s.heap L (Heap.SameBut.refl a s.heap) ⟨_, _, _, _, R⟩ (fun _ => rfl) fun z => absurd hm z)
  dsimp only
  refine wpAny_bind (wpAny_setState_of R.at' R.data R.fits ?_)
  dsimp only
  obtain ⟨q1, q2, q3, q4, q5, q6, q7, q8, q9⟩ := R.tab.put hK hb
  generalize t.put (way t.mask (x.2.hash w) K) = pt at q1 q3 q4 q5 q6 q7 q8 q9 ⊢
  obtain ⟨t1, p⟩ := pt
  dsimp only at q1 q3 q4 q5 q6 q7 q8 q9 ⊢
  subst q1
  have pm : (L.take (SetTable.below t.place (way t.mask (x.2.hash w) K)) ++ x :: L.drop (SetTable.below t.place (way t.mask (x.2.hash w) K))).Perm (x :: L) := put_perm L _ x
  have r1 : (SetTable.insertAt es (SetTable.below t.place (way t.mask (x.2.hash w) K)) (x.2.hash w, x.1)).toList = (L.take (SetTable.below t.place (way t.mask (x.2.hash w) K)) ++ x :: L.drop (SetTable.below t.place (way t.mask (x.2.hash w) K))).map (ent w) := by
    rw [SetTable.toList_insertAt, R.rows, List.map_append, List.map_cons, List.map_take, List.map_drop]; rfl
  have r2 : (L.take (SetTable.below t.place (way t.mask (x.2.hash w) K)) ++ x :: L.drop (SetTable.below t.place (way t.mask (x.2.hash w) K))).map (fun p => p.2.hash w) = (L.map fun p => p.2.hash w).take (SetTable.below t.place (way t.mask (x.2.hash w) K)) ++ x.2.hash w :: (L.map fun p => p.2.hash w).drop (SetTable.below t.place (way t.mask (x.2.hash w) K)) := by
    rw [List.map_append, List.map_cons, List.map_take, List.map_drop]
  rw [← r2] at q3
  generalize SetTable.insertAt es (SetTable.below t.place (way t.mask (x.2.hash w) K)) (x.2.hash w, x.1) = es1 at r1 ⊢
  generalize L.take (SetTable.below t.place (way t.mask (x.2.hash w) K)) ++ x :: L.drop (SetTable.below t.place (way t.mask (x.2.hash w) K)) = L1 at pm q3 r1
  have len1 : L1.length = L.length + 1 := pm.length_eq
  have z1 : es1.size = L.length + 1 := by rw [← Array.length_toList, r1, List.length_map, len1]
  have nd1 : (L1.map (·.2)).Nodup := (pm.map (·.2)).nodup_iff.mpr (by rw [List.map_cons]; exact List.nodup_cons.mpr ⟨hm, R.nd⟩)
  have full : t1.fill = L.length + 1 := by rw [q9, List.length_map]
  have ld1 : w.params.followText "set-order" = true ∨ t1.led = true := by rw [q5]; exact R.led
  -- behind the question of the hash
  have go : ∀ (pl : Bool), wpAny (model P w) A (do
      storeSet a es1 { t1 with plain := pl }
      if (!false && ({ t1 with plain := pl } : SetTable).tooFull) = true then setRelay a (SetTable.grown (es.size + 1))
      return true) Q E s := by
    intro pl
    have T2 := tab_plain q3 pl
    have full2 : ({ t1 with plain := pl } : SetTable).fill = L.length + 1 := full
    have ld2 : w.params.followText "set-order" = true ∨ ({ t1 with plain := pl } : SetTable).led = true := ld1
    have mk2 : ({ t1 with plain := pl } : SetTable).mask = t.mask := q4
    generalize ({ t1 with plain := pl } : SetTable) = t2 at T2 full2 ld2 mk2 ⊢
    refine wpAny_bind (wpAny_storeSet_of R.at' R.data ?_ (by rw [z1, sizeLine_eq]; omega))
    have sb : Heap.SameBut a s.heap (s.heap.update a (Obj.putSet es1 t2)) := Heap.SameBut.update ..
    have ho1 := store_at (es' := es1) (t' := t2) R.at' R.data
    have is1 : ∀ p ∈ L1, TupIs (s.heap.update a (Obj.putSet es1 t2)) p := fun p hp => by
      rcases List.mem_cons.mp (pm.mem_iff.mp hp) with e | hp
      · rw [e]; exact tup_but hx R.at' R.data sb
      · exact tup_but (R.is p hp) R.at' R.data sb
    have hex2 : ({ o with data := Data.set es1 (ep + 1) t2 } : Obj).ExactSet := ⟨R.ex.1, R.ex.2.1, R.ex.2.2⟩
    generalize s.heap.update a (Obj.putSet es1 t2) = h1 at sb ho1 is1 ⊢
    have tf : t2.tooFull = decide ((L.length + 1) * 5 ≥ t2.mask * 3) := by unfold SetTable.tooFull; rw [full2]
    rw [tf]
    by_cases hf : (L.length + 1) * 5 ≥ t2.mask * 3
    · have run : ∀ M, SetTable.sizeAbove (SetTable.grown (L.length + 1)) - 1 = M → MaskOk M → SetTable.sizeAbove (SetTable.grown (L.length + 1)) ≤ 128 → (L.length + 1) * 5 < M * 3 →
          wpAny (model P w) A (setRelay a (SetTable.grown (L.length + 1))) (fun _ s' => wpAny (model P w) A (pure true) Q E s') E { s with heap := h1 } := fun M a1 a2 a3 a4 => by
        have hmk : L1.length ≤ t2.mask := by
          rw [len1, mk2]
          rcases R.tab.mok with e | e | e <;> omega
        refine tup_relay (s := { s with heap := h1 }) ho1 hex2 rfl r1 (by rw [T2.sz, List.length_map]) T2.dm hmk nd1 is1 ld2 (by rw [len1]; exact few1) a1 a2 a3 (by rw [len1]; exact a4) fun h2 L2 sb2 R2 p2 => ?_
        exact wpAny_pure (hQ true h2 L2 (sb.trans sb2) R2 (fun z => absurd z hm) fun _ => p2.trans pm)
      have cases2 : L.length = 4 ∨ L.length = 18 := by
        rw [mk2] at hf
        rcases R.tab.mok with e | e | e <;> rw [e] at hf hroom <;> omega
      have two : ∀ M, SetTable.sizeAbove (SetTable.grown (L.length + 1)) - 1 = M → MaskOk M → SetTable.sizeAbove (SetTable.grown (L.length + 1)) ≤ 128 → (L.length + 1) * 5 < M * 3 → wpAny (model P w) A (do
          if (!false && decide ((L.length + 1) * 5 ≥ t2.mask * 3)) = true then setRelay a (SetTable.grown (es.size + 1))
          return true) Q E { s with heap := h1 } := fun M a1 a2 a3 a4 => by
        rw [hz]
        first
          | (refine wpAny_bind ?_; refine wp_if_pos (by simp [hf]) ?_; exact run M a1 a2 a3 a4)
          | (refine wp_if_pos (by simp [hf]) ?_; exact wpAny_bind (run M a1 a2 a3 a4))
      rcases cases2 with e2 | e2
      · exact two 31 (by rw [e2, size_20]) (.inr (.inl rfl)) (by rw [e2, size_20]; decide) (by omega)
      · exact two 127 (by rw [e2, size_76]) (.inr (.inr rfl)) (by rw [e2, size_76]; decide) (by omega)
    · have hr2 : L1.length * 5 < t2.mask * 3 := by rw [len1]; omega
      first
        | (refine wp_if_neg (by simp [hf]) ?_; exact wpAny_pure (hQ true h1 L1 sb ⟨_, _, _, _, ho1, hex2, rfl, r1, T2, ld2, hr2, nd1, is1, by rw [len1]; exact few1⟩ (fun z => absurd z hm) fun _ => pm))
        | (refine wpAny_bind ?_; refine wp_if_neg (by simp [hf]) ?_; refine wpAny_pure ?_; exact wpAny_pure (hQ true h1 L1 sb ⟨_, _, _, _, ho1, hex2, rfl, r1, T2, ld2, hr2, nd1, is1, by rw [len1]; exact few1⟩ (fun z => absurd z hm) fun _ => pm))
  have goT : wpAny (model P w) A (do
      storeSet a es1 t1
      if (!false && t1.tooFull) = true then setRelay a (SetTable.grown (es.size + 1))
      return true) Q E s := go t1.plain
  have goF := go false
  by_cases hp1 : t1.plain = true
  · first
      | (refine wpAny_bind ?_; refine wp_if_pos hp1 ?_)
      | (refine wp_if_pos hp1 ?_; refine wpAny_bind ?_)
    refine hash_key _ _ 8 _ hx.1 hx.2.1 _ _ _ fun b => ?_
    cases b
    · simp only [Bool.false_eq_true, if_false]
      exact goF
    · simp only [if_true]
      exact goT
  · first
      | (refine wpAny_bind ?_; refine wp_if_neg hp1 ?_; refine wpAny_pure ?_)
      | (refine wp_if_neg hp1 ?_; refine wpAny_bind (wpAny_pure ?_))
    simp only [if_true]
    exact goT
/-- tuples as members -/
def tupSK (P : Program) (w : World) : SK P w where
  K := NestedKey
  ok := TupIs
  rel := TupS P w
  room := 8
  okKeep := tup_keep
  relKeep := fun {h h' a L} R k ks => by
    obtain ⟨o, es, ep, t, R⟩ := R
    exact ⟨o, es, ep, t, { R with at' := k _ R.at', is := ks }⟩
  fresh := fun {h a} ho => ⟨_, #[], 0, _, ho, ⟨rfl, rfl, rfl⟩, rfl, rfl, ⟨List.Pairwise.nil, rfl, rfl, .inl rfl, fun x hx => (by cases hx), fun i h j hi => (by simp at hi)⟩, by
    show _ ∨ (!w.params.followText "set-order") = true
    cases w.params.followText "set-order"
    · exact .inr rfl
    · exact .inl rfl, by show 0 * 5 < 7 * 3; decide, List.nodup_nil, fun p hp => (by cases hp), by decide⟩
  add := fun {A E s a L x Q} R hx hu room hQ => by
    obtain ⟨o, es, ep, t, R⟩ := R
    unfold setAdd
    refine wpAny_holding ?_
    refine wpAny_bind (pyHash_key _ _ _ _ _ hx.1 (by have := hx.2.1; omega) ?_)
    exact tup_add (s := { s with toks := s.toks + x.2.draws }) R hx hu room fun b h' L' sb r c1 c2 => hQ b h' _ L' sb (Nat.le_add_right _ _) r c1 c2
  out := fun {h a L} R => by
    obtain ⟨o, es, ep, t, R⟩ := R
    have z : es.size = L.length := by rw [← Array.length_toList, R.rows, List.length_map]
    refine ⟨o, es, ep, t, R.at', R.ex, R.data, R.fits, ?_, R.tab.ris, R.led, ?_, R.nd⟩
    · have := R.few; rw [z]; unfold scanBound; omega
    · rw [R.rows, List.map_map]; rfl
end
end Ev

set_option Elab.async false
set_option linter.all false
set_option maxRecDepth 100000
set_option maxHeartbeats 4000000
/-! The evaluator, part S5: data as members; sorted(set(xs)), len(set(xs)). -/
namespace Ev
open PySem PySem.Spec PyProof.Rows L2
mutual
/-- data as a key -/
def tkD : D → Option NestedKey
  | .int i => some (.num i)
  | .str s => some (.text s)
  | .tuple ds => (tkAll ds).map .tup
  | _ => none
def tkAll : List D → Option (List NestedKey)
  | [] => some []
  | d :: ds => (tkD d).bind fun k => (tkAll ds).map (k :: ·)
end
mutual
theorem tkD_data : ∀ (d : D) (k : NestedKey), tkD d = some k → k.data = d
  | .int i, k, h => by cases h; rfl
  | .str s, k, h => by cases h; rfl
  | .tuple ds, k, h => by
    obtain ⟨ks, h1, rfl⟩ := Option.map_eq_some_iff.mp (show (tkAll ds).map NestedKey.tup = some k from h)
    rw [NestedKey.data, tkAll_data ds ks h1]
  | .none, k, h => by cases h
  | .bool _, k, h => by cases h
  | .list _, k, h => by cases h
  | .dict _, k, h => by cases h
theorem tkAll_data : ∀ (ds : List D) (ks : List NestedKey), tkAll ds = some ks → NestedKey.datas ks = ds
  | [], ks, h => by cases h; rfl
  | d :: ds, ks, h => by
    obtain ⟨k, h1, h⟩ := Option.bind_eq_some_iff.mp (show ((tkD d).bind fun k => (tkAll ds).map (k :: ·)) = some ks from h)
    obtain ⟨ks', h2, rfl⟩ := Option.map_eq_some_iff.mp h
    rw [NestedKey.datas, tkD_data d k h1, tkAll_data ds ks' h2]
end
def keyB (d : D) : Bool := (tkD d).isSome
def dk (a b : D) : Bool := match tkD a, tkD b with
  | some x, some y => NestedKey.beq x y
  | _, _ => false
theorem dk_eq {a b : D} (ha : keyB a = true) : dk a b = true ↔ a = b := by
  unfold keyB at ha
  obtain ⟨x, hx⟩ := Option.isSome_iff_exists.mp ha
  unfold dk
  rw [hx]
  constructor
  · intro h
    cases hy : tkD b with
    | none => rw [hy] at h; cases h
    | some y =>
      rw [hy] at h
      have := NestedKey.eq_of_beq _ _ h
      rw [← tkD_data a x hx, ← tkD_data b y hy, this]
  · rintro rfl
    rw [hx]
    exact NestedKey.beq_self x
/-- each once -/
def dd : List D → List D
  | [] => []
  | d :: ds => if ds.any (dk d) = true then dd ds else d :: dd ds
theorem mem_dd : ∀ {ds : List D}, ds.all keyB = true → ∀ x, x ∈ dd ds ↔ x ∈ ds
  | [], _, x => by simp [dd]
  | d :: ds, h, x => by
    rw [List.all_cons, Bool.and_eq_true] at h
    have ih := mem_dd h.2 x
    unfold dd
    split
    · rename_i ha
      obtain ⟨y, hy, e⟩ := List.any_eq_true.mp ha
      rw [dk_eq h.1] at e
      subst e
      rw [ih, List.mem_cons]
      exact ⟨.inr, fun z => z.elim (fun z => z ▸ hy) id⟩
    · rw [List.mem_cons, List.mem_cons, ih]
theorem nodup_dd : ∀ {ds : List D}, ds.all keyB = true → (dd ds).Nodup
  | [], _ => List.nodup_nil
  | d :: ds, h => by
    rw [List.all_cons, Bool.and_eq_true] at h
    unfold dd
    split
    · exact nodup_dd h.2
    · rename_i ha
      refine List.nodup_cons.mpr ⟨fun hm => ha ?_, nodup_dd h.2⟩
      exact List.any_eq_true.mpr ⟨d, (mem_dd h.2 d).mp hm, (dk_eq h.1).mpr rfl⟩
theorem dd_nodup : ∀ {ds : List D}, ds.all keyB = true → ds.Nodup → dd ds = ds
  | [], _, _ => rfl
  | d :: ds, h, n => by
    rw [List.all_cons, Bool.and_eq_true] at h
    obtain ⟨n1, n2⟩ := List.nodup_cons.mp n
    unfold dd
    rw [if_neg, dd_nodup h.2 n2]
    intro ha
    obtain ⟨y, hy, e⟩ := List.any_eq_true.mp ha
    rw [dk_eq h.1] at e
    exact n1 (e ▸ hy)
theorem dd_len : ∀ {ds : List D}, (dd ds).length ≤ ds.length
  | [] => Nat.le_refl _
  | d :: ds => by
    unfold dd
    have := @dd_len ds
    split <;> simp only [List.length_cons] <;> omega
theorem dd_len_eq : ∀ {ds : List D}, ds.all keyB = true → ((dd ds).length = ds.length ↔ ds.Nodup)
  | [], _ => by simp [dd]
  | d :: ds, h => by
    constructor
    · intro e
      rw [List.all_cons, Bool.and_eq_true] at h
      unfold dd at e
      split at e
      · have := @dd_len ds
        simp only [List.length_cons] at e
        omega
      · rename_i ha
        have e : (dd ds).length = ds.length := by simpa using e
        refine List.nodup_cons.mpr ⟨fun hm => ha ?_, (dd_len_eq h.2).mp e⟩
        exact List.any_eq_true.mpr ⟨d, hm, (dk_eq h.1).mpr rfl⟩
    · intro n; rw [dd_nodup h n]
/-! ### the order of sorting tells apart -/
mutual
theorem eqv_eq : ∀ (x y : D), keyB x = true → PySem.W.alike x y = true → PyData.eqv x y = true → x = y
  | .int a, y, _, h, e => by
    cases y with
    | int b => have : a = b := by simpa [PyData.eqv] using e
               rw [this]
    | _ => exact absurd h (by simp [PySem.W.alike])
  | .str a, y, _, h, e => by
    cases y with
    | str b => have : a = b := by simpa [PyData.eqv] using e
               rw [this]
    | _ => exact absurd h (by simp [PySem.W.alike])
  | .tuple xs, y, hk, h, e => by
    cases y with
    | tuple ys =>
      have hk' : (tkAll xs).isSome = true := by
        have : ((tkAll xs).map NestedKey.tup).isSome = true := hk
        simpa using this
      rw [eqvAll_eq xs ys hk' (by simpa [PySem.W.alike] using h) (by simpa [PyData.eqv] using e)]
    | _ => exact absurd h (by simp [PySem.W.alike])
  | .none, _, hk, _, _ => by cases hk
  | .bool _, _, hk, _, _ => by cases hk
  | .list _, _, hk, _, _ => by cases hk
  | .dict _, _, hk, _, _ => by cases hk
theorem eqvAll_eq : ∀ (xs ys : List D), (tkAll xs).isSome = true → PySem.W.alikeAll xs ys = true → PyData.eqvAll xs ys = true → xs = ys
  | [], ys, _, h, e => by
    cases ys with
    | nil => rfl
    | cons _ _ => exact absurd e (by simp [PyData.eqvAll])
  | x :: xs, ys, hk, h, e => by
    cases ys with
    | nil => exact absurd e (by simp [PyData.eqvAll])
    | cons y ys =>
      obtain ⟨ks, hk⟩ := Option.isSome_iff_exists.mp hk
      obtain ⟨k, h1, hk⟩ := Option.bind_eq_some_iff.mp (show ((tkD x).bind fun k => (tkAll xs).map (k :: ·)) = some ks from hk)
      obtain ⟨ks', h2, _⟩ := Option.map_eq_some_iff.mp hk
      obtain ⟨a1, a2⟩ := PySem.W.alike_all_cons h
      rw [PySem.W.eqv_all_cons, Bool.and_eq_true] at e
      rw [eqv_eq x y (by unfold keyB; rw [h1]; rfl) a1 e.1, eqvAll_eq xs ys (by rw [h2]; rfl) a2 e.2]
end
theorem le_anti {x y : D} (hx : keyB x = true) (ha : PySem.W.alike x y = true) (h1 : PySem.W.dataLe false id x y = true) (h2 : PySem.W.dataLe false id y x = true) : x = y := by
  have b1 : PyProof.Rows.lexLt itemOrd (PySem.W.keyToks y) (PySem.W.keyToks x) = false := by simpa [PySem.W.dataLe, PySem.W.sortLe] using h1
  have b2 : PyProof.Rows.lexLt itemOrd (PySem.W.keyToks x) (PySem.W.keyToks y) = false := by simpa [PySem.W.dataLe, PySem.W.sortLe] using h2
  have et : PySem.W.keyToks x = PySem.W.keyToks y := (listOrd itemOrd).total _ _ b2 b1
  cases he : PyData.eqv x y with
  | true => exact eqv_eq x y hx ha he
  | false =>
    have q := (PySem.W.toks_eqv x y ha).2 he [] [Sum.inl 0]
    rw [et] at q b2
    rw [PySem.W.lex_pre, b2] at q
    cases q
theorem sortL_pw (ds : List D) : (sortL ds).Pairwise fun a b => PySem.W.dataLe false id a b = true := List.pairwise_mergeSort (PySem.W.sortLe_total _ _ _).trans (fun a b => by
  rw [Bool.or_eq_true]
  exact (PySem.W.sortLe_total _ _ _).total a b) ds
theorem sortL_pm (ds : List D) : (sortL ds).Perm ds := List.mergeSort_perm ds _
theorem allAlike_mem {ds : List D} (h : allAlikeB ds = true) {a b : D} (ha : a ∈ ds) (hb : b ∈ ds) : PySem.W.alike a b = true := by
  simp only [allAlikeB, List.all_eq_true] at h
  exact h a ha b hb
/-- a row that rises and holds the same is the sorted one -/
theorem sortL_one {ds zs : List D} (hk : ds.all keyB = true) (ha : allAlikeB ds = true) (p : zs.Perm ds) (pw : zs.Pairwise fun a b => PySem.W.dataLe false id a b = true) : zs = sortL ds :=
  List.Perm.eq_of_pairwise (fun a b h1 h2 l1 l2 => le_anti (List.all_eq_true.mp hk a (p.mem_iff.mp h1)) (allAlike_mem ha (p.mem_iff.mp h1) ((sortL_pm ds).mem_iff.mp h2)) l1 l2) pw (sortL_pw ds) (p.trans (sortL_pm ds).symm)
theorem sortL_perm {ds es : List D} (hk : ds.all keyB = true) (ha : allAlikeB ds = true) (p : es.Perm ds) : sortL es = sortL ds := sortL_one hk ha ((sortL_pm es).trans p) (sortL_pw es)
/-! ### what may be a member -/
def flatB : D → Bool
  | .int _ => true
  | .str _ => true
  | _ => false
def tupB : D → Bool
  | .tuple ds => (tkD (.tuple ds)).any fun k => decide (k.depth ≤ 8)
  | _ => false
def setB (ds : List D) : Bool := (ds.all flatB || ds.all tupB) && decide (ds.length < 64)
theorem flat_keyB {d : D} (h : flatB d = true) : keyB d = true := by cases d <;> first | rfl | cases h
theorem tup_keyB {d : D} (h : tupB d = true) : keyB d = true := by
  cases d <;> first | cases h | skip
  rename_i ds
  have h : ((tkD (.tuple ds)).any fun k => decide (k.depth ≤ 8)) = true := h
  unfold keyB
  cases e : tkD (.tuple ds) with
  | none => rw [e] at h; cases h
  | some k => rfl
theorem set_keyB {ds : List D} (h : setB ds = true) : ds.all keyB = true := by
  simp only [setB, Bool.and_eq_true, Bool.or_eq_true, List.all_eq_true] at h ⊢
  rcases h.1 with h | h
  · exact fun d hd => flat_keyB (h d hd)
  · exact fun d hd => tup_keyB (h d hd)
def lsG : D → Option D
  | .list ds => if setB ds = true then some (.int (dd ds).length) else none
  | _ => none
def ssG : D → Option D
  | .list ds => if (setB ds && sortB (dd ds)) = true then some (.list (sortL (dd ds))) else none
  | _ => none
section
variable {X : Cx} {pins : List (Addr × Obj)} {σ : L2.St} {H F : Hp} {s : Shared}
mutual
theorem dn_nested (I : Inv X pins σ H s) (sf : Same F H) : ∀ (d : D) (k : NestedKey) (v : V) (u : Value), tkD d = some k → Dn X.K F v d → RelV v u → NestedIs s.heap k u
  | .int i, k, v, u, h, n, r => by cases h; cases n; obtain ⟨t, rfl⟩ := r; exact .int i t
  | .str x, k, v, u, h, n, r => by cases h; cases n; obtain ⟨t, rfl⟩ := r; exact .text x t
  | .tuple ds, k, v, u, h, n, r => by
    obtain ⟨ks, h1, rfl⟩ := Option.map_eq_some_iff.mp (show (tkAll ds).map NestedKey.tup = some k from h)
    cases n with
    | tup q ns =>
      obtain ⟨its, rv, ⟨o, ho, hc, m, hd⟩, _⟩ := I.tuple (seqT_same sf q.t)
      cases r
      exact .tup ho hc hd (by simpa using dnl_nested I sf ds ks _ its h1 ns rv)
  | .none, k, v, u, h, _, _ => by cases h
  | .bool _, k, v, u, h, _, _ => by cases h
  | .list _, k, v, u, h, _, _ => by cases h
  | .dict _, k, v, u, h, _, _ => by cases h
theorem dnl_nested (I : Inv X pins σ H s) (sf : Same F H) : ∀ (ds : List D) (ks : List NestedKey) (vs : List V) (us : List Value), tkAll ds = some ks → DnL X.K F vs ds → Vals vs us → NestedAll s.heap ks us
  | [], ks, vs, us, h, n, r => by cases h; cases n; cases r; exact .nil
  | d :: ds, ks, vs, us, h, n, r => by
    obtain ⟨k, h1, h⟩ := Option.bind_eq_some_iff.mp (show ((tkD d).bind fun k => (tkAll ds).map (k :: ·)) = some ks from h)
    obtain ⟨ks', h2, rfl⟩ := Option.map_eq_some_iff.mp h
    cases n with
    | cons n1 n2 =>
      cases r with
      | cons r1 r2 => exact .cons (dn_nested I sf d k _ _ h1 n1 r1) (dnl_nested I sf ds ks' _ _ h2 n2 r2)
end
/-- a value that stands for the data -/
def Stands (K : PySem.W.Frag) (F : Hp) (u : Value) (d : D) : Prop := ∃ x, RelV x u ∧ Dn K F x d
theorem members_flat : ∀ {ds : List D} {xs : List V} {us : List Value}, ds.all flatB = true → DnL X.K F xs ds → Vals xs us →
    ∃ ks : List (Value × Key), ks.map (·.1) = us ∧ ks.map (fun p => kD p.2) = ds ∧ ∀ p ∈ ks, (mK X.prog X.w).is p.2 p.1 = true ∧ Stands X.K F p.1 (kD p.2)
  | [], _, _, _, n, r => by cases n; cases r; exact ⟨[], rfl, rfl, fun p hp => by cases hp⟩
  | d :: ds, _, _, h, n, r => by
    rw [List.all_cons, Bool.and_eq_true] at h
    cases n with
    | @cons x _ _ _ n1 n2 =>
      cases r with
      | @cons _ u _ _ r1 r2 =>
        obtain ⟨ks, e1, e2, e3⟩ := members_flat h.2 n2 r2
        have one : ∃ k : Key, kD k = d ∧ (mK X.prog X.w).is k u = true := by
          cases d <;> first | (exact absurd h.1 Bool.false_ne_true) | skip
          · cases n1; obtain ⟨t, rfl⟩ := r1; exact ⟨.inl _, rfl, mixKind_int _ _ _ t⟩
          · cases n1; obtain ⟨t, rfl⟩ := r1; exact ⟨.inr _, rfl, mixKind_str _ _ _ t⟩
        obtain ⟨k, k1, k2⟩ := one
        refine ⟨(u, k) :: ks, by rw [List.map_cons, e1], by rw [List.map_cons, e2, k1], fun p hp => ?_⟩
        rcases List.mem_cons.mp hp with e | hp
        · subst e; exact ⟨k2, x, r1, by rw [k1]; exact n1⟩
        · exact e3 p hp
theorem members_tup (I : Inv X pins σ H s) (sf : Same F H) : ∀ {ds : List D} {xs : List V} {us : List Value}, ds.all tupB = true → DnL X.K F xs ds → Vals xs us →
    ∃ ks : List (Value × NestedKey), ks.map (·.1) = us ∧ ks.map (fun p => p.2.data) = ds ∧ ∀ p ∈ ks, TupIs s.heap p ∧ Stands X.K F p.1 p.2.data
  | [], _, _, _, n, r => by cases n; cases r; exact ⟨[], rfl, rfl, fun p hp => by cases hp⟩
  | d :: ds, _, _, h, n, r => by
    rw [List.all_cons, Bool.and_eq_true] at h
    cases n with
    | @cons x _ _ _ n1 n2 =>
      cases r with
      | @cons _ u _ _ r1 r2 =>
        obtain ⟨ks, e1, e2, e3⟩ := members_tup I sf h.2 n2 r2
        cases d <;> first | (exact absurd h.1 Bool.false_ne_true) | skip
        rename_i es
        have h1 : ((tkD (.tuple es)).any fun k => decide (k.depth ≤ 8)) = true := h.1
        cases hk : tkD (.tuple es) with
        | none => rw [hk] at h1; cases h1
        | some k =>
          rw [hk] at h1
          have hdp : k.depth ≤ 8 := by simpa using h1
          have k1 := tkD_data _ _ hk
          have isN := dn_nested I sf _ _ _ _ hk n1 r1
          have isr : ∃ b, u = Value.ref b := by
            cases n1 with
            | tup _ _ => cases r1; exact ⟨_, rfl⟩
          refine ⟨(u, k) :: ks, by rw [List.map_cons, e1], by rw [List.map_cons, e2, k1], fun p hp => ?_⟩
          rcases List.mem_cons.mp hp with e | hp
          · subst e; exact ⟨⟨isN, hdp, isr⟩, x, r1, by rw [k1]; exact n1⟩
          · exact e3 p hp
theorem kD_inj {a b : Key} (h : kD a = kD b) : a = b := by
  cases a <;> cases b <;> first | (cases h; rfl) | cases h
mutual
theorem data_inj : ∀ (a b : NestedKey), a.data = b.data → a = b
  | .none, b, h => by cases b <;> first | rfl | simp [NestedKey.data] at h
  | .num i, b, h => by
    cases b <;> first | (simp [NestedKey.data] at h; done) | skip
    simp only [NestedKey.data, PyData.int.injEq] at h
    rw [h]
  | .text i, b, h => by
    cases b <;> first | (simp [NestedKey.data] at h; done) | skip
    simp only [NestedKey.data, PyData.str.injEq] at h
    rw [h]
  | .tup ks, b, h => by
    cases b <;> first | (simp [NestedKey.data] at h; done) | skip
    simp only [NestedKey.data, PyData.tuple.injEq] at h
    rw [datas_inj _ _ h]
theorem datas_inj : ∀ (a b : List NestedKey), NestedKey.datas a = NestedKey.datas b → a = b
  | [], [], _ => rfl
  | [], _ :: _, h => by simp [NestedKey.datas] at h
  | _ :: _, [], h => by simp [NestedKey.datas] at h
  | a :: as, b :: bs, h => by
    simp only [NestedKey.datas, List.cons.injEq] at h
    rw [data_inj a b h.1, datas_inj as bs h.2]
end
/-- what is told of a set that was made of a list -/
structure Told (K : PySem.W.Frag) (w : World) (F : Hp) (h : Heap) (a : Addr) (ds : List D) (M : List (Value × D)) : Prop where
  out : SetOut w h a M
  stands : ∀ p ∈ M, Stands K F p.1 p.2
  perm : (M.map (·.2)).Perm (dd ds)
theorem perm_dd {ds ms : List D} (hk : ds.all keyB = true) (nd : ms.Nodup) (h1 : ∀ d ∈ ms, d ∈ ds) (h2 : ∀ d ∈ ds, d ∈ ms) : ms.Perm (dd ds) :=
  (List.perm_ext_iff_of_nodup nd (nodup_dd hk)).mpr fun d => ⟨fun h => (mem_dd hk d).mpr (h1 d h), fun h => h2 d ((mem_dd hk d).mp h)⟩
theorem told_of {K : Type} {w : World} {h : Heap} {a : Addr} {L ks : List (Value × K)} {ds : List D} {f : K → D} (fi : ∀ x y, f x = f y → x = y) {Fr : PySem.W.Frag} (hk : ds.all keyB = true) (o : SetOut w h a L) (g : Has ks ks.length L) (ed : ks.map (fun p => f p.2) = ds)
    (st : ∀ p ∈ ks, Stands Fr F p.1 (f p.2)) : Told Fr w F h a ds (L.map fun p => (p.1, f p.2)) := by
  obtain ⟨o', es, ep, t, h1, h2, h3, h4, h5, h6, h7, h8, nd⟩ := o
  have inks : ∀ p ∈ L, p ∈ ks := fun p hp => List.mem_of_mem_take (g.sub p hp)
  have e2 : (L.map fun p => (p.1, f p.2)).map (·.2) = (L.map (·.2)).map f := by rw [List.map_map, List.map_map]; rfl
  have nd2 : ((L.map fun p => (p.1, f p.2)).map (·.2)).Nodup := by
    rw [e2]
    exact List.pairwise_map.mpr (nd.imp fun hne e => hne (fi _ _ e))
  refine ⟨⟨o', es, ep, t, h1, h2, h3, h4, h5, h6, h7, by rw [h8, List.map_map]; rfl, nd2⟩, fun p hp => ?_, perm_dd hk nd2 (fun d hd => ?_) fun d hd => ?_⟩
  · obtain ⟨q, hq, rfl⟩ := List.mem_map.mp hp
    exact st q (inks q hq)
  · rw [e2] at hd
    obtain ⟨k, hk1, rfl⟩ := List.mem_map.mp hd
    obtain ⟨q, hq, rfl⟩ := List.mem_map.mp hk1
    rw [← ed]
    exact List.mem_map.mpr ⟨q, inks q hq, rfl⟩
  · rw [← ed] at hd
    obtain ⟨q, hq, rfl⟩ := List.mem_map.mp hd
    rw [e2]
    exact List.mem_map.mpr ⟨q.2, g.all q (by rw [List.take_length]; exact hq), rfl⟩
theorem told_set (hc : X.calm = true) (hu : X.A.units + 64 < cLine) (I : Inv X pins σ H s) (sf : Same F H) {l : Addr} {xs : List V} {ds : List D} (hl : SqL X.K H l xs) (hn : DnL X.K F xs ds) (hb : setB ds = true) {Q : Value → Shared → Prop} {E : Value → Shared → Prop}
    (h : ∀ (a : Addr) (s' : Shared) (M : List (Value × D)), Inv X pins σ H s' → Told X.K X.w F s'.heap a ds M → Q (.ref a) s') : wpAny (model X.prog X.w) X.A (call (.type "set") [.ref l]) Q E s := by
  obtain ⟨its, rv, pl, hz⟩ := I.list hl
  have hk := set_keyB hb
  simp only [setB, Bool.and_eq_true, Bool.or_eq_true, decide_eq_true_eq] at hb
  obtain ⟨hb, few⟩ := hb
  rcases hb with hb | hb
  · obtain ⟨ks, e1, e2, e3⟩ := members_flat (X := X) hb hn rv
    have lk : ks.length < 64 := by rw [← e2, List.length_map] at few; exact few
    have eit : its.toArray.toList = ks.map (·.1) := by simpa using e1.symm
    refine call_setK (flatSK X.prog X.w) ks (I.ok.hd hc) pl.isList eit (fun p hp => (e3 p hp).1) lk (by show _ + 3 + 0 < _; omega) fun h' tk L R g k => ?_
    exact h _ _ _ (I.kept (t' := tk) k) (told_of (fun _ _ => kD_inj) hk ((flatSK X.prog X.w).out R) g e2 fun p hp => (e3 p hp).2)
  · obtain ⟨ks, e1, e2, e3⟩ := members_tup I sf hb hn rv
    have lk : ks.length < 64 := by rw [← e2, List.length_map] at few; exact few
    have eit : its.toArray.toList = ks.map (·.1) := by simpa using e1.symm
    refine call_setK (tupSK X.prog X.w) ks (I.ok.hd hc) pl.isList eit (fun p hp => (e3 p hp).1) lk (by show _ + 3 + 8 < _; omega) fun h' tk L R g k => ?_
    exact h _ _ _ (I.kept (t' := tk) k) (told_of data_inj hk ((tupSK X.prog X.w).out R) g e2 fun p hp => (e3 p hp).2)
end
end Ev

set_option Elab.async false
set_option linter.all false
set_option maxRecDepth 100000
set_option maxHeartbeats 4000000
/-! The evaluator, part S6: sorted(set(xs)) and len(set(xs)) as expressions. -/
namespace Ev
open PySem PySem.Spec PyProof.Rows L2
mutual
theorem reads_bare : ∀ (d : D) (v : Value) (h : Heap) (as : List Addr), keyB d = true → Reads h v d as → as = []
  | .int i, _, _, _, _, r => by cases r; rfl
  | .str i, _, _, _, _, r => by cases r; rfl
  | .tuple ds, _, _, _, k, r => by
    have k' : (tkAll ds).isSome = true := by
      have : ((tkAll ds).map NestedKey.tup).isSome = true := k
      simpa using this
    cases r with
    | tuple _ _ _ h4 => exact readsAll_bare ds _ _ _ k' h4
  | .none, _, _, _, k, _ => by cases k
  | .bool _, _, _, _, k, _ => by cases k
  | .list _, _, _, _, k, _ => by cases k
  | .dict _, _, _, _, k, _ => by cases k
theorem readsAll_bare : ∀ (ds : List D) (vs : List Value) (h : Heap) (as : List Addr), (tkAll ds).isSome = true → ReadsAll h vs ds as → as = []
  | [], _, _, _, _, r => by cases r; rfl
  | d :: ds, _, _, _, k, r => by
    obtain ⟨ks, hk⟩ := Option.isSome_iff_exists.mp k
    obtain ⟨k0, h1, hk⟩ := Option.bind_eq_some_iff.mp (show ((tkD d).bind fun k => (tkAll ds).map (k :: ·)) = some ks from hk)
    obtain ⟨ks', h2, _⟩ := Option.map_eq_some_iff.mp hk
    cases r with
    | cons r1 r2 => rw [reads_bare d _ _ _ (by unfold keyB; rw [h1]; rfl) r1, readsAll_bare ds _ _ _ (by rw [h2]; rfl) r2]; rfl
end
theorem each_pairs {α β : Type} {R : α → β → Prop} : ∀ {M : List (α × β)}, (∀ p ∈ M, R p.1 p.2) → PySem.W.EachIs R (M.map (·.1)) (M.map (·.2))
  | [], _ => .nil
  | p :: M, h => .cons (h p List.mem_cons_self) (each_pairs fun q hq => h q (List.mem_cons_of_mem _ hq))
theorem sortOk_perm {ds es : List D} (h : SortOk ds) (p : es.Perm ds) : SortOk es := by
  obtain ⟨h1, h2, h3⟩ := h
  refine ⟨fun d hd e he => h1 d (p.mem_iff.mp hd) e (p.mem_iff.mp he), h2.imp (fun z d hd => z d (p.mem_iff.mp hd)) fun z d hd => z d (p.mem_iff.mp hd), fun d hd => h3 d (p.mem_iff.mp hd)⟩
theorem sortB_alike {ds : List D} (h : sortB ds = true) : allAlikeB ds = true := by
  simp only [sortB, Bool.and_eq_true] at h
  exact h.1.1
section
variable {X : Cx} {pins : List (Addr × Obj)} {σ : L2.St} {H F : Hp} {s : Shared}
theorem sorted_told (hc : X.calm = true) (hu : X.A.units + 67 < cLine) (I : Inv X pins σ H s) (sf : Same F H) {a : Addr} {ds : List D} {M : List (Value × D)} (T : Told X.K X.w F s.heap a ds M) (hk : setB ds = true) (hs : sortB (dd ds) = true) {Q : Value → Shared → Prop} {E : Value → Shared → Prop}
    (h : ∀ (p : Addr) (s' : Shared) (zs : List V), H p = none → Inv X pins σ (upd H p (.lst zs)) s' → DnL X.K F zs (sortL (dd ds)) → Q (.ref p) s') : wpAny (model X.prog X.w) X.A (call (.builtin "sorted") [.ref a]) Q E s := by
  obtain ⟨o, es, ep, t, ho, hex, hd, hf, hsz, hr, hl, hv, nd⟩ := T.out
  have kb := set_keyB hk
  have few : (dd ds).length < 64 := by
    simp only [setB, Bool.and_eq_true, decide_eq_true_eq] at hk
    exact Nat.lt_of_le_of_lt dd_len hk.2
  have kb2 : ∀ d ∈ dd ds, keyB d = true := fun d hd => List.all_eq_true.mp kb d ((mem_dd kb d).mp hd)
  refine Calls.call_function_entry kind_sorted plain_sorted entry_sorted (args_sorted1 _) ?_
  unfold Builtin.«sorted»
  refine wpAny_bind (m := checkCount "sorted" 1 1 _) (wpAny_pure ?_)
  refine wpAny_bind (collect_set (A := X.A.in1) (I.ok.hd hc) ⟨o, ho, hex.1, hd⟩ hf hsz hr hl fun s1 vs k1 hz g1 o1 pm => ?_)
  rw [hv] at pm
  obtain ⟨M', e1, p1⟩ := perm_back _ _ _ pm
  have pb : (M'.map (·.2)).Perm (dd ds) := (p1.map _).trans T.perm
  have lv : vs.length = (M'.map (·.2)).length := by rw [e1, List.length_map, List.length_map]
  have lb : (M'.map (·.2)).length = (dd ds).length := pb.length_eq
  have eb : PySem.W.EachIs (Stands X.K F) vs (M'.map (·.2)) := by rw [e1]; exact each_pairs fun p hp => T.stands p (p1.mem_iff.mp hp)
  have so := sortOk_perm (sortB_ok hs) pb
  have sm : sortL (M'.map (·.2)) = sortL (dd ds) := sortL_perm (List.all_eq_true.mpr kb2) (sortB_alike hs) pb
  have kb3 : ∀ d ∈ M'.map (·.2), keyB d = true := fun d hd => kb2 d (pb.mem_iff.mp hd)
  generalize M'.map (·.2) = bs at pb lv lb eb so sm kb3
  refine wpAny_bind (wpAny_newList ?_ (by rw [lv, lb, sizeLine_eq]; omega))
  have hoL : (s1.heap.push (seqObj "list" vs.toArray 0)).get? s1.heap.objs.size = some (seqObj "list" vs.toArray 0) := Heap.get?_push_size _ rfl
  have k2 : ∀ b u, s.heap.get? b = some u → (s1.heap.push (seqObj "list" vs.toArray 0)).get? b = some u := fun b u e => Heap.get?_push_of_some _ (k1 b u e)
  have er : PySem.W.EachIs (fun v (d : D) => ∃ as, Reads (s1.heap.push (seqObj "list" vs.toArray 0)) v (id d) as ∧ s1.heap.objs.size ∉ as) vs bs := (PySem.W.each_mem eb).mono fun u d ⟨⟨x, rx, nx⟩, hm⟩ => by
    obtain ⟨as, r⟩ := Dp.reads I d x u ((nx.mono sf).dp d x (SeqAt.canLay_of_shaped (so.2.2 d hm))) rx
    have := reads_bare d _ _ _ (kb3 d hm) r
    subst this
    exact ⟨[], PyProof.Rows.Reads.keeps k2 r, by simp⟩
  have hmap : bs.map (id : D → D) = bs := List.map_id bs
  refine wpAny_bind (wpAny_holding (PySem.W.list_sort_data (s := { s1 with heap := s1.heap.push (seqObj "list" vs.toArray 0) }) (R := Stands X.K F) (bs := bs) (enc := id) hoL eb er (by rw [hmap]; exact so.1) (by rw [hmap]; exact so.2.1) (by rw [lb, sizeLine_eq]; omega) (fun b hb => ?_) fun out lo eo => ?_))
  · have h1 := SeqAt.depth_of_shaped (so.2.2 b hb)
    show X.A.units + 1 + 1 + b.depth < cLine
    omega
  · have eo : PySem.W.EachIs (Stands X.K F) out (sortL bs) := eo
    rw [sm] at eo
    obtain ⟨zs, z1, z2⟩ := each_back eo
    obtain ⟨c, hcl⟩ := sortedHeap_at (vs := vs) (out := out.toArray) hoL
    have hlen : zs.length ≤ sizeLine := by rw [z2.length, lo, lb, sizeLine_eq]; omega
    have kp : ∀ b u, s.heap.get? b = some u → (sortedHeap (s1.heap.push (seqObj "list" vs.toArray 0)) s1.heap.objs.size vs out.toArray).get? b = some u := fun b u e => by
      have q := k1 b u e
      have hlt := Heap.lt_size q
      rw [sortedHeap_old (Nat.ne_of_lt hlt) (by rw [size_push']; exact Nat.lt_succ_of_lt hlt)]
      exact Heap.get?_push_of_some _ q
    have hn : H s1.heap.objs.size = none := I.hok.fresh hz
    have J : Inv X pins σ (upd H s1.heap.objs.size (.lst zs)) { s with heap := sortedHeap (s1.heap.push (seqObj "list" vs.toArray 0)) s1.heap.objs.size vs out.toArray, gens := s1.gens, drawn := s1.drawn, toks := s1.toks } :=
      I.call (ch := []) (Un.laid kp hz hn) (I.hok.laid kp hz ⟨hlen, out, c, z2, hcl⟩) (by rw [g1]; exact I.bare) (fun _ z => nomatch z)
    refine wpAny_pure ⟨_, rfl, ?_⟩
    have e : ({ s1 with heap := sortedHeap (s1.heap.push (seqObj "list" vs.toArray 0)) s1.heap.objs.size vs out.toArray } : Shared) = { s with heap := sortedHeap (s1.heap.push (seqObj "list" vs.toArray 0)) s1.heap.objs.size vs out.toArray, gens := s1.gens, drawn := s1.drawn, toks := s1.toks } := by
      cases s1
      cases s
      cases o1
      rfl
    show Q (.ref s1.heap.objs.size) { s1 with heap := sortedHeap (s1.heap.push (seqObj "list" vs.toArray 0)) s1.heap.objs.size vs out.toArray }
    rw [e]
    exact h _ _ zs hn J z1
end
section
variable {X : Cx} {W : WX} {F0 H0 : Hp} {O : List Nat} {a : Expr} {ta : TE} {p p2 q pos : Pos}
def tSS (K : PySem.W.Frag) (ta : TE) : TE := fun σ H Q => ta σ H fun x H1 => ∃ (l : Addr) (xs : List V) (ds : List D) (F1 : Hp), x = V.ref l ∧ SqL K H1 l xs ∧ DnL K F1 xs ds ∧ Same F1 H1 ∧ setB ds = true ∧ sortB (dd ds) = true ∧
  ∀ p zs, H1 p = none → DnL K F1 zs (sortL (dd ds)) → Q (.ref p) (upd H1 p (.lst zs))
theorem pe_ss (hc : X.calm = true) (hu : X.A.units + 67 < cLine) (hg : Gl X "sorted") (hm : X.mg "sorted" = none) (hg2 : Gl X "set") (hm2 : X.mg "set" = none) (ha : PE X a ta) (na : starEach [a] X.env = (false, eval a X.env) :: starEach [] X.env) :
    PE X (.Call (.Name "sorted" p) [.Call (.Name "set" p2) [a] [] q] [] pos) (tSS X.K ta) := by
  refine ⟨fun pins s σ H Q I h => ?_⟩
  refine Call_ (ld_blt I hg hm boot_sorted ?_)
  refine PyProof.Rows.callWith_builtin1 (PyProof.Rows.args_cons ?_ rfl) rfl rfl
  refine Call_ (ld_blt I hg2 hm2 PyProof.Rows.boot_set ?_)
  refine PyProof.Rows.callWith_type1 (PyProof.Rows.args_cons (thn (ha.run pins s σ H _ I h) fun v s1 ⟨x, H1, I1, r1, q1⟩ => PyProof.Rows.args_nil ?_) na) na rfl
  obtain ⟨l, xs, ds, F1, rfl, hl, hn, sf, hb, hs, q1⟩ := q1
  cases r1
  refine told_set hc (by omega) I1 sf hl hn hb fun a s2 M I2 T => ?_
  refine PyProof.Rows.args_nil ?_
  exact sorted_told hc hu I2 sf T hb hs fun p s3 zs hp I3 hz => ⟨.ref p, _, I3, rfl, q1 p zs hp hz⟩
theorem pe_ssO {f : Env → Res D} (hc : X.calm = true) (hu : X.A.units + 67 < cLine) (hg : Gl X "sorted") (hm : X.mg "sorted" = none) (hg2 : Gl X "set") (hm2 : X.mg "set" = none) (ha : PE X a (xR X W F0 H0 O f)) (na : starEach [a] X.env = (false, eval a X.env) :: starEach [] X.env) :
    PE X (.Call (.Name "sorted" p) [.Call (.Name "set" p2) [a] [] q] [] pos) (xO X W F0 H0 O (c1 ssG f)) :=
  PE.of (pe_ss hc hu hg hm hg2 hm2 ha na) fun σ H Q ⟨ρ, F, rel, q⟩ => by
    refine ⟨ρ, F, rel, (RQ.seq q).imp fun d _ q1 v F1 H1 g b => ?_⟩
    cases e : ssG d with
    | none => rw [e] at q1; exact False.elim q1
    | some c =>
      rw [e] at q1
      unfold ssG at e
      split at e
      · rename_i ds _
        split at e
        · rename_i hb
          cases e
          rw [Bool.and_eq_true] at hb
          obtain ⟨l, xs, rfl, h1, h2⟩ := b.list g.fh
          refine ⟨l, xs, ds, F1, rfl, h1, h2, g.fh, hb.1, hb.2, fun p zs hp hz => ?_⟩
          have out : F1 p = none := by
            cases z : F1 p with
            | none => rfl
            | some o => have := g.fh p o z; rw [hp] at this; cases this
          have g2 := Gr.out (o := .lst zs) g.fh hp
          exact q1 _ _ _ (g.trans g2) ⟨p, zs, rfl, g.hh.free hp, out, upd_same, hz⟩
        · cases e
      · cases e
def tLS (K : PySem.W.Frag) (ta : TE) : TE := fun σ H Q => ta σ H fun x H1 => ∃ (l : Addr) (xs : List V) (ds : List D) (F1 : Hp), x = V.ref l ∧ SqL K H1 l xs ∧ DnL K F1 xs ds ∧ Same F1 H1 ∧ setB ds = true ∧ Q (.int (dd ds).length) H1
theorem pe_ls (hc : X.calm = true) (hu : X.A.units + 67 < cLine) (hg : Gl X "len") (hm : X.mg "len" = none) (hg2 : Gl X "set") (hm2 : X.mg "set" = none) (ha : PE X a ta) (na : starEach [a] X.env = (false, eval a X.env) :: starEach [] X.env) :
    PE X (.Call (.Name "len" p) [.Call (.Name "set" p2) [a] [] q] [] pos) (tLS X.K ta) := by
  refine ⟨fun pins s σ H Q I h => ?_⟩
  refine Call_ (ld_blt I hg hm PySem.boot_len ?_)
  refine PyProof.Rows.callWith_builtin1 (PyProof.Rows.args_cons ?_ rfl) rfl rfl
  refine Call_ (ld_blt I hg2 hm2 PyProof.Rows.boot_set ?_)
  refine PyProof.Rows.callWith_type1 (PyProof.Rows.args_cons (thn (ha.run pins s σ H _ I h) fun v s1 ⟨x, H1, I1, r1, q1⟩ => PyProof.Rows.args_nil ?_) na) na rfl
  obtain ⟨l, xs, ds, F1, rfl, hl, hn, sf, hb, q1⟩ := q1
  cases r1
  refine told_set hc (by omega) I1 sf hl hn hb fun a s2 M I2 T => ?_
  refine PyProof.Rows.args_nil ?_
  obtain ⟨o, es, ep, t, ho, hex, hd, hf, hsz, hr, hl, hv, nd⟩ := T.out
  have ez : es.size = (dd ds).length := by
    have e1 := congrArg List.length hv
    have e2 := T.perm.length_eq
    rw [List.length_map, List.length_map, Array.length_toList] at e1
    rw [List.length_map] at e2
    omega
  have few : es.size < 4096 := hsz
  refine call_len_set ho hex hd hf (by omega) ⟨.int (dd ds).length, H1, I2.tok _, ⟨_, by rw [ez]⟩, q1⟩
theorem pe_lsO {f : Env → Res D} (hc : X.calm = true) (hu : X.A.units + 67 < cLine) (hg : Gl X "len") (hm : X.mg "len" = none) (hg2 : Gl X "set") (hm2 : X.mg "set" = none) (ha : PE X a (xR X W F0 H0 O f)) (na : starEach [a] X.env = (false, eval a X.env) :: starEach [] X.env) :
    PE X (.Call (.Name "len" p) [.Call (.Name "set" p2) [a] [] q] [] pos) (xO X W F0 H0 O (c1 lsG f)) :=
  PE.of (pe_ls hc hu hg hm hg2 hm2 ha na) fun σ H Q ⟨ρ, F, rel, q⟩ => by
    refine ⟨ρ, F, rel, (RQ.seq q).imp fun d _ q1 v F1 H1 g b => ?_⟩
    cases e : lsG d with
    | none => rw [e] at q1; exact False.elim q1
    | some c =>
      rw [e] at q1
      unfold lsG at e
      split at e
      · rename_i ds _
        split at e
        · rename_i hb
          cases e
          obtain ⟨l, xs, rfl, h1, h2⟩ := b.list g.fh
          exact ⟨l, xs, ds, F1, rfl, h1, h2, g.fh, hb, q1 _ F1 H1 g (.int _)⟩
        · cases e
      · cases e
/-- sorted(set(e)), len(set(e)) -/
def stOf (sc : Expr → Bool) (x : Str) : List Expr → Option (Expr × (D → Option D))
  | [.Call (.Name y p2) [e] [] q] => if y = "set" ∧ sc (.Name y p2) = true then (if x = "sorted" then some (e, ssG) else if x = "len" then some (e, lsG) else none) else none
  | _ => none
theorem stOf_ok {sc : Expr → Bool} {x : Str} {as : List Expr} {e : Expr} {g : D → Option D} (h : stOf sc x as = some (e, g)) : ∃ p2 q, as = [.Call (.Name "set" p2) [e] [] q] ∧ sc (.Name "set" p2) = true ∧ ((x = "sorted" ∧ g = ssG) ∨ (x = "len" ∧ g = lsG)) := by
  unfold stOf at h
  split at h
  · split at h
    · rename_i hc
      obtain ⟨rfl, h2⟩ := hc
      split at h
      · cases h; exact ⟨_, _, rfl, h2, .inl ⟨‹_›, rfl⟩⟩
      · split at h
        · cases h; exact ⟨_, _, rfl, h2, .inr ⟨‹_›, rfl⟩⟩
        · cases h
    · cases h
  · cases h
end
end Ev

set_option Elab.async false
set_option linter.all false
set_option maxRecDepth 100000
set_option maxHeartbeats 4000000
/-! The evaluator, part F: targets, what is walked, list comprehensions. -/
namespace Ev
open PySem L2

/-! ### targets -/
def setAll {α : Type} (ρ : List (Option α)) : List Nat → List α → List (Option α)
  | i :: is, d :: ds => setAll (ρ.set i (some d)) is ds
  | _, _ => ρ
/-- what a target does with an item -/
def cTg (tup : Bool) (is : List Nat) (d : D) (ρ : Env) : Res Env := match tup with
  | false => .ok (setAll ρ is [d])
  | true => match d with
    | .tuple ds => if ds.length = is.length then .ok (setAll ρ is ds) else .bad
    | _ => .bad
def wipeE (ρ : Env) : List Nat → Env
  | [] => ρ
  | v :: vs => (wipeE ρ vs).set v none
section
variable {K : PySem.W.Frag} {F0 H0 F H : Hp} {O : List Nat} {ρ : Env} {σ : St}
theorem Rel.set (r : Rel K F0 H0 O ρ σ F H) {i : Nat} {d : D} {v : V} (hi : i ∉ O) (n : Dn K F v d) : Rel K F0 H0 O (ρ.set i (some d)) (σ.set i (some v)) F H := by
  refine ⟨by simp [r.len], r.sfh, r.s0, r.sf0, r.nw, fun j e h1 h2 => ?_, fun j e h1 h2 => ?_, fun j k d' e' a h1 h2 h3 h4 h5 h6 h7 h8 h9 => ?_⟩
  · by_cases hj : i = j
    · subst hj
      have hl : i < ρ.length := by
        obtain ⟨q, _⟩ := List.getElem?_eq_some_iff.mp h2
        simpa using q
      rw [List.getElem?_set_self hl] at h2
      cases h2
      exact ⟨v, List.getElem?_set_self (by rw [← r.len]; exact hl), n⟩
    · rw [List.getElem?_set_ne hj] at h2 ⊢
      exact r.fz j e h1 h2
  · have hj : i ≠ j := fun z => hi (z ▸ h1)
    rw [List.getElem?_set_ne hj] at h2 ⊢
    exact r.ow j e h1 h2
  · have hj : i ≠ j := fun z => hi (z ▸ h1)
    have hk : i ≠ k := fun z => hi (z ▸ h2)
    rw [List.getElem?_set_ne hj] at h4 h8
    rw [List.getElem?_set_ne hk] at h5 h9
    exact r.ap j k d' e' a h1 h2 h3 h4 h5 h6 h7 h8 h9
theorem Rel.clear (r : Rel K F0 H0 O ρ σ F H) (i : Nat) : Rel K F0 H0 O (ρ.set i none) (σ.set i none) F H := by
  have gone : ∀ {j : Nat} {e : D}, (ρ.set i none)[j]? = some (some e) → i ≠ j ∧ ρ[j]? = some (some e) := fun {j e} h => by
    by_cases hj : i = j
    · subst hj
      by_cases hl : i < ρ.length
      · rw [List.getElem?_set_self hl] at h; cases h
      · rw [List.getElem?_eq_none (by simpa using hl)] at h; cases h
    · rw [List.getElem?_set_ne hj] at h; exact ⟨hj, h⟩
  refine ⟨by simp [r.len], r.sfh, r.s0, r.sf0, r.nw, fun j e h1 h2 => ?_, fun j e h1 h2 => ?_, fun j k d' e' a h1 h2 h3 h4 h5 h6 h7 h8 h9 => ?_⟩
  · obtain ⟨hj, h2⟩ := gone h2
    rw [List.getElem?_set_ne hj]; exact r.fz j e h1 h2
  · obtain ⟨hj, h2⟩ := gone h2
    rw [List.getElem?_set_ne hj]; exact r.ow j e h1 h2
  · obtain ⟨hj, h4⟩ := gone h4
    obtain ⟨hk, h5⟩ := gone h5
    rw [List.getElem?_set_ne hj] at h8
    rw [List.getElem?_set_ne hk] at h9
    exact r.ap j k d' e' a h1 h2 h3 h4 h5 h6 h7 h8 h9
theorem Rel.wipe (r : Rel K F0 H0 O ρ σ F H) : ∀ vs : List Nat, Rel K F0 H0 O (wipeE ρ vs) (L2.wipe σ vs) F H
  | [] => r
  | v :: vs => (Rel.wipe r vs).clear v
theorem Rel.setAll : ∀ {is : List Nat} {ds : List D} {vs : List V} {ρ : Env} {σ : St}, Rel K F0 H0 O ρ σ F H → (∀ i ∈ is, i ∉ O) → DnL K F vs ds → Rel K F0 H0 O (Ev.setAll ρ is ds) (Ev.setAll σ is vs) F H
  | [], [], _, _, _, r, _, h => by cases h; exact r
  | [], _ :: _, _, _, _, r, _, h => by cases h; exact r
  | _ :: _, [], _, _, _, r, _, h => by cases h; exact r
  | i :: is, d :: ds, _, ρ, σ, r, hi, h => by
    cases h with
    | cons h1 h2 =>
      have t := Rel.setAll (is := is) (ds := ds) (r.set (hi i (by simp)) h1) (fun j hj => hi j (by simp [hj])) h2
      exact t
end
section
variable {X : Cx} {pos : Pos}
/-- names in a row -/
def gNames (is : List Nat) : TGs := fun vs σ H Q => vs.length = is.length ∧ Q (setAll σ is vs) H
theorem pgs_names : ∀ {es : List Expr} {is : List Nat} (h : Paired (fun (e : Expr) (i : Nat) => PG X e (gName i) ∧ ∀ r : List Expr, (assignEach (e :: r) X.env).map (·.2) = assign e X.env :: (assignEach r X.env).map (·.2)) es is), PGs X es (gNames is)
  | [], _, h => by
    cases h
    exact ⟨fun pins s σ H vs us Q I r ⟨hl, q⟩ => by
      have e : vs = [] := List.length_eq_zero_iff.mp hl
      subst e
      exact pgs_nil.run pins s σ H [] us Q I r ⟨rfl, q⟩⟩
  | e :: es, _, h => by
    cases h with
    | @cons _ i _ is h1 h2 =>
      have ih := pgs_names h2
      refine ⟨fun pins s σ H vs us Q I r ⟨hl, q⟩ => ?_⟩
      cases vs with
      | nil => cases hl
      | cons v vs =>
        exact (pgs_cons h1.1 ih (h1.2 es)).run pins s σ H (v :: vs) us Q I r ⟨v, vs, rfl, by simpa using hl, q⟩
/-- an item; where it is taken apart at once, a tuple of whatever object -/
def DnW (tp : Bool) (K : PySem.W.Frag) (F : Hp) (v : V) (d : D) : Prop := match tp with
  | false => Dn K F v d
  | true => Dn K F v d ∨ ∃ a xs ds, v = .ref a ∧ d = .tuple ds ∧ SqT K F a xs ∧ DnL K F xs ds
theorem DnW.of {tp : Bool} {K : PySem.W.Frag} {F : Hp} {v : V} {d : D} (n : Dn K F v d) : DnW tp K F v d := by
  cases tp with
  | false => exact n
  | true => exact .inl n
/-- a target's reading: whatever it stores, the relation stands behind it -/
def xG (X : Cx) (F0 H0 : Hp) (O : List Nat) (tup : Bool) (is : List Nat) : TG := fun v σ H Q => ∃ ρ F d ρ', Rel X.K F0 H0 O ρ σ F H ∧ DnW tup X.K F v d ∧ cTg tup is d ρ = .ok ρ' ∧ ∀ σ', (∃ vs, σ' = setAll σ is vs) → Rel X.K F0 H0 O ρ' σ' F H → Q σ' H
theorem PG.of {e : Expr} {t t' : TG} (h : PG X e t) (i : ∀ v σ H Q, t' v σ H Q → t v σ H Q) : PG X e t' := ⟨fun pins s σ H v u Q I r q => h.run pins s σ H v u Q I r (i v σ H Q q)⟩
theorem pg_nameX {F0 H0 : Hp} {O : List Nat} {e : Expr} {i : Nat} (h : PG X e (gName i)) (hi : i ∉ O) : PG X e (xG X F0 H0 O false [i]) :=
  PG.of h fun v σ H Q ⟨ρ, F, d, ρ', r, n, e, q⟩ => by
    cases e
    exact q _ ⟨[v], rfl⟩ (r.set hi (show Dn X.K F v d from n))
theorem pg_tupX {F0 H0 : Hp} {O : List Nat} {es : List Expr} {k : Nat} {is : List Nat} (hc : X.calm = true) (h : PGs X es (gNames is)) (hi : ∀ i ∈ is, i ∉ O) (hn : (assignEach es X.env).length = is.length) (hst : (assignEach es X.env).findIdx? (·.1) = none) :
    PG X (.Tuple es k pos) (xG X F0 H0 O true is) :=
  PG.of (pg_tup hc h hn hst) fun v σ H Q ⟨ρ, F, d, ρ', r, n, e, q⟩ => by
    unfold cTg at e
    split at e
    · cases ‹true = false›
    · split at e
      · rename_i ds
        split at e
        · rename_i hl
          cases e
          have n2 : ∃ a xs, v = .ref a ∧ SqT X.K F a xs ∧ DnL X.K F xs ds := by
            rcases n with n | ⟨a, xs, ds', e1, e2, h1, h2⟩
            · cases n with
              | @tup a xs _ hq hn => exact ⟨a, xs, rfl, hq.t, hn⟩
            · cases e2; exact ⟨a, xs, e1, h1, h2⟩
          obtain ⟨a, xs, rfl, hq, hn⟩ := n2
          exact ⟨a, xs, rfl, seqT_same r.sfh hq, by rw [hn.length]; exact hl, by rw [hn.length]; exact hl, q _ ⟨xs, rfl⟩ (r.setAll hi hn)⟩
        · cases e
      · cases e
end

/-! ### what is walked -/
def signs (z : Str) : List D := z.cps.toList.map fun c => .str ⟨#[c]⟩
def seqOf : D → Option (List D)
  | .list xs => some xs
  | .tuple xs => some xs
  | .str z => some (signs z)
  | _ => none
def rangeD (lo : Int) (n : Nat) : List D := (List.range n).map fun (i : Nat) => .int (lo + (i : Nat))
def in62 (i : Int) : Bool := decide (-(2 ^ 62) ≤ i) && decide (i < 2 ^ 62)
def rng1 : List D → Option (List D)
  | [.int j] => if in62 j then some (rangeD 0 j.toNat) else none
  | _ => none
def rng2 : List D → Option (List D)
  | [.int i, .int j] => if in62 i && in62 j then some (rangeD i (j - i).toNat) else none
  | _ => none
def enumD (k : Nat) : List D → List D
  | [] => []
  | d :: ds => .tuple [.int (k : Nat), d] :: enumD (k + 1) ds
def enumG : List D → Option (List D)
  | [.list xs] => some (enumD 0 xs)
  | _ => none
def zipD : List D → List D → List D
  | x :: xs, y :: ys => .tuple [x, y] :: zipD xs ys
  | _, _ => []
def zipG : List D → Option (List D)
  | [.list xs, .list ys] => some (zipD xs ys)
  | [.tuple xs, .tuple ys] => some (zipD xs ys)
  | _ => none
def cSeq (f : Env → Res D) : Env → Res (List D) := fun ρ => do
  let d ← f ρ
  ofO (seqOf d)
def cSrc (g : List D → Option (List D)) (fs : List (Env → Res D)) : Env → Res (List D) := fun ρ => do
  let as ← cs fs ρ
  ofO (g as)

/-- J yields the data ds, one a turn, at every heap that comes later -/
structure Src (tp : Bool) (K : PySem.W.Frag) (later : Hp → Hp → Prop) (J : It) (ds : List D) : Prop where
  go : ∀ (i : Nat) (F H : Hp), later F H → i < ds.length → J.go i H
  yld : ∀ (i : Nat) (d : D) (F H : Hp) (x : V) (H' : Hp), later F H → ds[i]? = some d → J.yld i H x H' → ∃ F', Gr F H F' H' ∧ DnW tp K F' x d
  stop : ∀ (F H : Hp), later F H → J.stop ds.length H
/-- for a comprehension: the heap grows -/
abbrev LtC (F H : Hp) : Hp → Hp → Prop := fun F' H' => Gr F H F' H'
/-- for a loop: what is frozen stands -/
abbrev LtF (F : Hp) : Hp → Hp → Prop := fun F' H' => Same F F' ∧ Same F' H'
section
variable {K : PySem.W.Frag} {F H : Hp} {a b : Addr} {xs ys : List V} {ds es : List D}
theorem src_list {tp : Bool} {later : Hp → Hp → Prop} (hl : ∀ F' H', later F' H' → Same F' H' ∧ SqL K H' a xs ∧ DnL K F' xs ds) : Src tp K later (Itl K a) ds where
  go := fun i F' H' l hi => by
    obtain ⟨s, q, n⟩ := hl F' H' l
    have : i < xs.length := by rw [n.length]; exact hi
    exact ⟨xs, xs[i], q, List.getElem?_eq_getElem this⟩
  yld := fun i d F' H' x H2 l hd y => by
    obtain ⟨s, q, n⟩ := hl F' H' l
    obtain ⟨rfl, y⟩ := y
    obtain ⟨v, e1, e2⟩ := n.get hd
    have := y xs q
    rw [e1] at this; cases this
    exact ⟨F', Gr.refl s, .of e2⟩
  stop := fun F' H' l => by
    obtain ⟨s, q, n⟩ := hl F' H' l
    exact ⟨xs, q, by rw [n.length]; exact Nat.le_refl _⟩
theorem src_tup {tp : Bool} {later : Hp → Hp → Prop} (hl : ∀ F' H', later F' H' → Same F' H' ∧ SqT K H' a xs ∧ DnL K F' xs ds) : Src tp K later (Itt K a) ds where
  go := fun i F' H' l hi => by
    obtain ⟨s, q, n⟩ := hl F' H' l
    have : i < xs.length := by rw [n.length]; exact hi
    exact ⟨xs, xs[i], q, List.getElem?_eq_getElem this⟩
  yld := fun i d F' H' x H2 l hd y => by
    obtain ⟨s, q, n⟩ := hl F' H' l
    obtain ⟨rfl, y⟩ := y
    obtain ⟨v, e1, e2⟩ := n.get hd
    have := y xs q
    rw [e1] at this; cases this
    exact ⟨F', Gr.refl s, .of e2⟩
  stop := fun F' H' l => by
    obtain ⟨s, q, n⟩ := hl F' H' l
    exact ⟨xs, q, by rw [n.length]; exact Nat.le_refl _⟩
theorem src_str {tp : Bool} {later : Hp → Hp → Prop} {z : Str} (hl : ∀ F' H', later F' H' → Same F' H') : Src tp K later (Its z) (signs z) where
  go := fun i F' H' l hi => by
    have : i < z.cps.size := by simpa [signs] using hi
    exact this
  yld := fun i d F' H' x H2 l hd y => by
    obtain ⟨rfl, c, e, rfl⟩ := y
    have : (signs z)[i]? = some (.str ⟨#[c]⟩) := by
      unfold signs
      rw [List.getElem?_map]
      have : z.cps.toList[i]? = some c := by simpa using e
      rw [this]; rfl
    rw [this] at hd; cases hd
    exact ⟨F', Gr.refl (hl _ _ l), .of (.str _)⟩
  stop := fun F' H' l => by
    show z.cps.size ≤ (signs z).length
    simp [signs]
theorem src_range {tp : Bool} {later : Hp → Hp → Prop} {lo : Int} {n : Nat} (hl : ∀ F' H', later F' H' → Same F' H') : Src tp K later (Itr lo n) (rangeD lo n) where
  go := fun i F' H' l hi => by
    have : i < n := by simpa [rangeD] using hi
    exact this
  yld := fun i d F' H' x H2 l hd y => by
    obtain ⟨rfl, rfl⟩ := y
    have hi : i < n := by
      obtain ⟨q, _⟩ := List.getElem?_eq_some_iff.mp hd
      simpa [rangeD] using q
    have : (rangeD lo n)[i]? = some (.int (lo + (i : Nat))) := by
      unfold rangeD
      rw [List.getElem?_map, List.getElem?_range hi]; rfl
    rw [this] at hd; cases hd
    exact ⟨F', Gr.refl (hl _ _ l), .of (.int _)⟩
  stop := fun F' H' l => by
    show n ≤ (rangeD lo n).length
    simp [rangeD]
theorem enumD_length : ∀ (ds : List D) (k : Nat), (enumD k ds).length = ds.length
  | [], _ => rfl
  | _ :: ds, k => by simp [enumD, enumD_length ds (k + 1)]
theorem enumD_get : ∀ (ds : List D) (k i : Nat) (e : D), (enumD k ds)[i]? = some e → ∃ d, ds[i]? = some d ∧ e = .tuple [.int ((k + i : Nat)), d]
  | [], _, _, _, h => by simp [enumD] at h
  | d :: ds, k, 0, e, h => by simp [enumD] at h; exact ⟨d, rfl, h.symm⟩
  | _ :: ds, k, i + 1, e, h => by
    obtain ⟨d, e1, e2⟩ := enumD_get ds (k + 1) i e (by simpa [enumD] using h)
    exact ⟨d, by simpa using e1, by rw [e2]; congr 3; omega⟩
theorem src_enum {later : Hp → Hp → Prop} (hl : ∀ F' H', later F' H' → Same F' H' ∧ SqL K H' a xs ∧ DnL K F' xs ds) : Src true K later (Ite K a) (enumD 0 ds) where
  go := fun i F' H' l hi => by
    obtain ⟨s, q, n⟩ := hl F' H' l
    rw [enumD_length] at hi
    have : i < xs.length := by rw [n.length]; exact hi
    exact ⟨xs, xs[i], q, List.getElem?_eq_getElem this⟩
  yld := fun i d F' H' x H2 l hd y => by
    obtain ⟨s, q, n⟩ := hl F' H' l
    obtain ⟨T, x0, rfl, hT, rfl, y⟩ := y
    obtain ⟨d0, e1, rfl⟩ := enumD_get ds 0 i d hd
    obtain ⟨v, e2, e3⟩ := n.get e1
    have := y xs q
    rw [e2] at this; cases this
    have g := Gr.new (o := .tup [.int (i : Nat), x0]) s hT
    refine ⟨_, g, .inr ⟨_, _, _, rfl, rfl, SqT.of upd_same, .cons ?_ (.cons (e3.mono g.ff) .nil)⟩⟩
    rw [Nat.zero_add]; exact .int _
  stop := fun F' H' l => by
    obtain ⟨s, q, n⟩ := hl F' H' l
    rw [enumD_length]
    exact ⟨xs, q, by rw [n.length]; exact Nat.le_refl _⟩
theorem zipD_length : ∀ (xs ys : List D), (zipD xs ys).length = min xs.length ys.length
  | [], _ => by simp [zipD]
  | _ :: _, [] => by simp [zipD]
  | _ :: xs, _ :: ys => by simp [zipD, zipD_length xs ys]
theorem zipD_get : ∀ (xs ys : List D) (i : Nat) (e : D), (zipD xs ys)[i]? = some e → ∃ x y, xs[i]? = some x ∧ ys[i]? = some y ∧ e = .tuple [x, y]
  | [], _, _, _, h => by simp [zipD] at h
  | _ :: _, [], _, _, h => by simp [zipD] at h
  | x :: _, y :: _, 0, e, h => by simp [zipD] at h; exact ⟨x, y, rfl, rfl, h.symm⟩
  | _ :: xs, _ :: ys, i + 1, e, h => by
    obtain ⟨x, y, e1, e2, e3⟩ := zipD_get xs ys i e (by simpa [zipD] using h)
    exact ⟨x, y, by simpa using e1, by simpa using e2, e3⟩
theorem src_zip {later : Hp → Hp → Prop} (hl : ∀ F' H', later F' H' → Same F' H' ∧ SqL K H' a xs ∧ DnL K F' xs ds ∧ SqL K H' b ys ∧ DnL K F' ys es) : Src true K later (Itz K a b) (zipD ds es) where
  go := fun i F' H' l hi => by
    obtain ⟨s, q, n, q2, n2⟩ := hl F' H' l
    rw [zipD_length] at hi
    have h1 : i < xs.length := by rw [n.length]; omega
    have h2 : i < ys.length := by rw [n2.length]; omega
    exact ⟨xs, ys, xs[i], ys[i], q, q2, List.getElem?_eq_getElem h1, List.getElem?_eq_getElem h2⟩
  yld := fun i d F' H' x H2 l hd y => by
    obtain ⟨s, q, n, q2, n2⟩ := hl F' H' l
    obtain ⟨T, x0, y0, rfl, hT, rfl, y, y'⟩ := y
    obtain ⟨d0, d1, e1, e2, rfl⟩ := zipD_get ds es i d hd
    obtain ⟨v, e3, e4⟩ := n.get e1
    obtain ⟨v', e5, e6⟩ := n2.get e2
    have z1 := y xs q
    rw [e3] at z1; cases z1
    have z2 := y' ys q2
    rw [e5] at z2; cases z2
    have g := Gr.new (o := .tup [x0, y0]) s hT
    exact ⟨_, g, .inr ⟨_, _, _, rfl, rfl, SqT.of upd_same, .cons (e4.mono g.ff) (.cons (e6.mono g.ff) .nil)⟩⟩
  stop := fun F' H' l => by
    obtain ⟨s, q, n, q2, n2⟩ := hl F' H' l
    rw [zipD_length]
    exact ⟨xs, ys, q, q2, by rw [n.length, n2.length]; omega⟩
theorem src_zipT {later : Hp → Hp → Prop} (hl : ∀ F' H', later F' H' → Same F' H' ∧ SqT K H' a xs ∧ DnL K F' xs ds ∧ SqT K H' b ys ∧ DnL K F' ys es) : Src true K later (RZ.ItzT K a b) (zipD ds es) where
  go := fun i F' H' l hi => by
    obtain ⟨s, q, n, q2, n2⟩ := hl F' H' l
    rw [zipD_length] at hi
    have h1 : i < xs.length := by rw [n.length]; omega
    have h2 : i < ys.length := by rw [n2.length]; omega
    exact ⟨xs, ys, xs[i], ys[i], q, q2, List.getElem?_eq_getElem h1, List.getElem?_eq_getElem h2⟩
  yld := fun i d F' H' x H2 l hd y => by
    obtain ⟨s, q, n, q2, n2⟩ := hl F' H' l
    obtain ⟨T, x0, y0, rfl, hT, rfl, y, y'⟩ := y
    obtain ⟨d0, d1, e1, e2, rfl⟩ := zipD_get ds es i d hd
    obtain ⟨v, e3, e4⟩ := n.get e1
    obtain ⟨v', e5, e6⟩ := n2.get e2
    have z1 := y xs q
    rw [e3] at z1; cases z1
    have z2 := y' ys q2
    rw [e5] at z2; cases z2
    have g := Gr.new (o := .tup [x0, y0]) s hT
    exact ⟨_, g, .inr ⟨_, _, _, rfl, rfl, SqT.of upd_same, .cons (e4.mono g.ff) (.cons (e6.mono g.ff) .nil)⟩⟩
  stop := fun F' H' l => by
    obtain ⟨s, q, n, q2, n2⟩ := hl F' H' l
    rw [zipD_length]
    exact ⟨xs, ys, q, q2, by rw [n.length, n2.length]; omega⟩
end

/-- what is walked: for a comprehension (c), for a loop -/
def xI (X : Cx) (W : WX) (F0 H0 : Hp) (O : List Nat) (c tp : Bool) (f : Env → Res (List D)) : TI := fun σ H R => ∃ ρ F, Rel X.K F0 H0 O ρ σ F H ∧ RQ X.K X.mg W σ F H (f ρ) fun ds => ∀ F' H' J, Gr F H F' H' → Src tp X.K (if c = true then LtC F' H' else LtF F') J ds → R J H'
section
variable {X : Cx} {W : WX} {F0 H0 : Hp} {O : List Nat} {tg e : Expr} {f : Env → Res D} {pos p : Pos} {fs : List (Env → Res D)}
def iSeq (K : PySem.W.Frag) (te : TE) : TI := fun σ H R => te σ H fun x H1 => (∃ a, x = .ref a ∧ (∃ xs, SqL K H1 a xs) ∧ R (Itl K a) H1) ∨ (∃ a, x = .ref a ∧ (∃ xs, SqT K H1 a xs) ∧ R (Itt K a) H1) ∨ ∃ z, x = .str z ∧ R (Its z) H1
theorem pi_seq {te : TE} (he : PE X e te) : PI X tg e (iSeq X.K te) := by
  refine ⟨fun pins s σ H R I h => ?_⟩
  refine thn (he.run pins s σ H _ I h) fun v s1 ⟨x, H1, I1, r1, q1⟩ => ?_
  rcases q1 with ⟨a, e, ⟨xs, hq⟩, q⟩ | ⟨a, e, ⟨xs, hq⟩, q⟩ | ⟨z, e, q⟩
  · subst e
    cases r1
    obtain ⟨its, rv, p, hz⟩ := I1.list hq
    refine wpAny_pyIter_list p.isList ?_
    refine ⟨s1.heap.objs.size, [s1.heap.objs.size], _, _, H1, rfl, I1.kept (t' := s1.toks) fun b o e => Heap.get?_push_of_some _ e, turn_list a _, ⟨_, Heap.get?_push_size _ rfl, rfl, rfl⟩, fun b hb => ?_, q⟩
    have e : b = s1.heap.objs.size := by simpa using hb
    subst e
    exact I1.fpOk (Nat.le_refl _) (I1.hok.fresh (Nat.le_refl _))
  · subst e
    cases r1
    obtain ⟨its, rv, p, hz⟩ := I1.tuple hq
    refine wpAny_pyIter_tuple (show s1.heap.IsTuple a its.toArray from p) ?_
    refine ⟨s1.heap.objs.size, [s1.heap.objs.size], _, _, H1, rfl, I1.kept (t' := s1.toks) fun b o e => Heap.get?_push_of_some _ e, turn_tuple a _, ⟨_, Heap.get?_push_size _ rfl, rfl, rfl⟩, fun b hb => ?_, q⟩
    have e : b = s1.heap.objs.size := by simpa using hb
    subst e
    exact I1.fpOk (Nat.le_refl _) (I1.hok.fresh (Nat.le_refl _))
  · subst e
    obtain ⟨t, rfl⟩ := r1
    cases ha : z.cps.all (· < 128)
    · exact wpAny_pyIter_wide ha (pi_one (tk := s1.toks) I1 _ (turn_str _ z t "str_iterator" (.inr rfl)) ⟨_, Heap.get?_push_size _ rfl, rfl, rfl⟩ q)
    · exact wpAny_pyIter_ascii ha (pi_one (tk := s1.toks) I1 _ (turn_str _ z t "str_ascii_iterator" (.inl rfl)) ⟨_, Heap.get?_push_size _ rfl, rfl, rfl⟩ q)
theorem PI.of {t t' : TI} (h : PI X tg e t) (i : ∀ σ H R, t' σ H R → t σ H R) : PI X tg e t' := ⟨fun pins s σ H R I q => h.run pins s σ H R I (i σ H R q)⟩
theorem lt_c {F H F' H' : Hp} (l : LtC F H F' H') : Same F' H' := l.fh
/-- in a comprehension the source may be read only -/
theorem pi_seqC {tp : Bool} (he : PE X e (xR X W F0 H0 O f)) : PI X tg e (xI X W F0 H0 O true tp (cSeq f)) :=
  PI.of (pi_seq he) fun σ H R ⟨ρ, F, rel, q⟩ => by
    refine ⟨ρ, F, rel, (RQ.seq q).imp fun d _ q1 v F1 H1 g b => ?_⟩
    cases d with
    | list ds =>
      obtain ⟨a, xs, rfl, hq, n⟩ := b.list g.fh
      exact .inl ⟨a, rfl, ⟨xs, hq⟩, q1 F1 H1 _ g (src_list fun F' H' (l : LtC F1 H1 F' H') => ⟨l.fh, l.hh.seq hq, n.mono l.ff⟩)⟩
    | tuple ds =>
      obtain ⟨a, xs, rfl, hq, n⟩ := b.tuple
      exact .inr (.inl ⟨a, rfl, ⟨xs, seqT_same g.fh hq⟩, q1 F1 H1 _ g (src_tup fun F' H' (l : LtC F1 H1 F' H') => ⟨l.fh, seqT_same (l.ff.trans l.fh) hq, n.mono l.ff⟩)⟩)
    | str z =>
      cases b.str
      exact .inr (.inr ⟨z, rfl, q1 F1 H1 _ g (src_str fun F' H' (l : LtC F1 H1 F' H') => l.fh)⟩)
    | none => exact False.elim q1
    | bool _ => exact False.elim q1
    | int _ => exact False.elim q1
    | dict _ => exact False.elim q1
/-- in a loop it is frozen -/
theorem pi_seqF {tp : Bool} (he : PE X e (xE X W F0 H0 O f)) : PI X tg e (xI X W F0 H0 O false tp (cSeq f)) :=
  PI.of (pi_seq he) fun σ H R ⟨ρ, F, rel, q⟩ => by
    refine ⟨ρ, F, rel, (RQ.seq q).imp fun d _ q1 v F1 H1 g n => ?_⟩
    cases d with
    | list ds =>
      cases n with
      | @lst a xs _ hq n => exact .inl ⟨a, rfl, ⟨xs, g.fh.seq hq⟩, q1 F1 H1 _ g (src_list fun F' H' (l : LtF F1 F' H') => ⟨l.2, (l.1.trans l.2).seq hq, n.mono l.1⟩)⟩
    | tuple ds =>
      cases n with
      | @tup a xs _ hq n => exact .inr (.inl ⟨a, rfl, ⟨xs, seqT_same g.fh hq.t⟩, q1 F1 H1 _ g (src_tup fun F' H' (l : LtF F1 F' H') => ⟨l.2, seqT_same (l.1.trans l.2) hq.t, n.mono l.1⟩)⟩)
    | str z =>
      cases n
      exact .inr (.inr ⟨z, rfl, q1 F1 H1 _ g (src_str fun F' H' (l : LtF F1 F' H') => l.2)⟩)
    | none => exact False.elim q1
    | bool _ => exact False.elim q1
    | int _ => exact False.elim q1
    | dict _ => exact False.elim q1
theorem in62_of {i : Int} (h : in62 i = true) : -(2 ^ 62) ≤ i ∧ i < 2 ^ 62 := by
  simpa [in62] using h
theorem later_same {c : Bool} {F H F' H' : Hp} (l : (if c = true then LtC F H else LtF F) F' H') : Same F' H' := by
  cases c with
  | true => exact (show LtC F H F' H' from l).fh
  | false => exact (show LtF F F' H' from l).2
theorem pi_rng1 {c tp : Bool} {a : Expr} (hg : Gl X "range") (hm : X.mg "range" = none) (ha : PA X [a] (xA X W F0 H0 O (cs fs))) (hs : starEach [a] X.env = [(false, eval a X.env)]) : PI X tg (.Call (.Name "range" p) [a] [] pos) (xI X W F0 H0 O c tp (cSrc rng1 fs)) :=
  PI.of (pi_range1 hg hm ha hs) fun σ H R ⟨ρ, F, rel, q⟩ => by
    refine ⟨ρ, F, rel, (RQ.seq q).imp fun as _ q1 vs F1 H1 g n => ?_⟩
    cases e : rng1 as with
    | none => rw [e] at q1; exact False.elim q1
    | some ds =>
      rw [e] at q1
      unfold rng1 at e
      split at e
      · split at e
        · rename_i j _ hj
          cases e
          obtain ⟨h1, h2⟩ := in62_of hj
          cases n with
          | cons n1 n2 =>
            cases n1; cases n2
            exact ⟨j, rfl, h1, h2, q1 F1 H1 _ g (src_range fun F' H' l => later_same l)⟩
        · cases e
      · cases e
theorem pi_rng2 {c tp : Bool} {a b : Expr} (hg : Gl X "range") (hm : X.mg "range" = none) (ha : PA X [a, b] (xA X W F0 H0 O (cs fs))) (hs : starEach [a, b] X.env = [(false, eval a X.env), (false, eval b X.env)]) (hs2 : starEach [b] X.env = [(false, eval b X.env)]) :
    PI X tg (.Call (.Name "range" p) [a, b] [] pos) (xI X W F0 H0 O c tp (cSrc rng2 fs)) :=
  PI.of (pi_range2 hg hm ha hs hs2) fun σ H R ⟨ρ, F, rel, q⟩ => by
    refine ⟨ρ, F, rel, (RQ.seq q).imp fun as _ q1 vs F1 H1 g n => ?_⟩
    cases e : rng2 as with
    | none => rw [e] at q1; exact False.elim q1
    | some ds =>
      rw [e] at q1
      unfold rng2 at e
      split at e
      · split at e
        · rename_i i j _ hj
          cases e
          rw [Bool.and_eq_true] at hj
          obtain ⟨h1, h2⟩ := in62_of hj.1
          obtain ⟨h3, h4⟩ := in62_of hj.2
          cases n with
          | cons n1 n2 =>
            cases n2 with
            | cons n2 n3 =>
              cases n1; cases n2; cases n3
              exact ⟨i, j, rfl, ⟨h1, h2, h3, h4⟩, q1 F1 H1 _ g (src_range fun F' H' l => later_same l)⟩
        · cases e
      · cases e
/-- what stands in F is there at all later heaps -/
theorem later_list {c : Bool} {K : PySem.W.Frag} {F H F' H' : Hp} {a : Addr} {xs : List V} {ds : List D} (hq : SqL K F a xs) (n : DnL K F xs ds) (l : (if c = true then LtC F H else LtF F) F' H') : Same F' H' ∧ SqL K H' a xs ∧ DnL K F' xs ds := by
  cases c with
  | true =>
    have l : LtC F H F' H' := l
    exact ⟨l.fh, (l.ff.trans l.fh).seq hq, n.mono l.ff⟩
  | false =>
    have l : LtF F F' H' := l
    exact ⟨l.2, (l.1.trans l.2).seq hq, n.mono l.1⟩
theorem later_tup {c : Bool} {K : PySem.W.Frag} {F H F' H' : Hp} {a : Addr} {xs : List V} {ds : List D} (hq : SqT K F a xs) (n : DnL K F xs ds) (l : (if c = true then LtC F H else LtF F) F' H') : Same F' H' ∧ SqT K H' a xs ∧ DnL K F' xs ds := by
  cases c with
  | true =>
    have l : LtC F H F' H' := l
    exact ⟨l.fh, seqT_same (l.ff.trans l.fh) hq, n.mono l.ff⟩
  | false =>
    have l : LtF F F' H' := l
    exact ⟨l.2, seqT_same (l.1.trans l.2) hq, n.mono l.1⟩
theorem pi_enumX {c : Bool} {a : Expr} {elts : List Expr} {kk : Nat} {tpos : Pos} (hg : Gl X "enumerate") (hm : X.mg "enumerate" = none) (ha : PA X [a] (xA X W F0 H0 O (cs fs))) (hs : starEach [a] X.env = [(false, eval a X.env)]) :
    PI X (.Tuple elts kk tpos) (.Call (.Name "enumerate" p) [a] [] pos) (xI X W F0 H0 O c true (cSrc enumG fs)) :=
  PI.of (pi_enum hg hm ha hs) fun σ H R ⟨ρ, F, rel, q⟩ => by
    refine ⟨ρ, F, rel, (RQ.seq q).imp fun as _ q1 vs F1 H1 g n => ?_⟩
    cases e : enumG as with
    | none => rw [e] at q1; exact False.elim q1
    | some ds =>
      rw [e] at q1
      unfold enumG at e
      split at e
      · cases e
        cases n with
        | cons n1 n2 =>
          cases n2
          cases n1 with
          | @lst a xs _ hq n => exact ⟨a, xs, rfl, g.fh.seq hq, q1 F1 H1 _ g (src_enum fun F' H' l => later_list hq n l)⟩
      · cases e
theorem pi_zipX {c : Bool} {a b : Expr} {elts : List Expr} {kk : Nat} {tpos : Pos} (hg : Gl X "zip") (hm : X.mg "zip" = none) (ha : PA X [a, b] (xA X W F0 H0 O (cs fs))) (hs : starEach [a, b] X.env = (false, eval a X.env) :: starEach [b] X.env) (hpl : (backTo pos (starEach [b] X.env)).any (·.1) = false) :
    PI X (.Tuple elts kk tpos) (.Call (.Name "zip" p) [a, b] [] pos) (xI X W F0 H0 O c true (cSrc zipG fs)) :=
  PI.of (RZ.pi_zipA hg hm ha hs hpl) fun σ H R ⟨ρ, F, rel, q⟩ => by
    refine ⟨ρ, F, rel, (RQ.seq q).imp fun as _ q1 vs F1 H1 g n => ?_⟩
    cases e : zipG as with
    | none => rw [e] at q1; exact False.elim q1
    | some ds =>
      rw [e] at q1
      unfold zipG at e
      split at e
      · cases e
        cases n with
        | cons n1 n2 =>
          cases n2 with
          | cons n2 n3 =>
            cases n3
            cases n1 with
            | @lst a xs _ hq n =>
              cases n2 with
              | @lst b ys _ hq2 n2 =>
                exact ⟨a, b, xs, ys, rfl, .inl ⟨g.fh.seq hq, g.fh.seq hq2, q1 F1 H1 _ g (src_zip fun F' H' l => ⟨(later_list hq n l).1, (later_list hq n l).2.1, (later_list hq n l).2.2, (later_list hq2 n2 l).2.1, (later_list hq2 n2 l).2.2⟩)⟩⟩
      · cases e
        cases n with
        | cons n1 n2 =>
          cases n2 with
          | cons n2 n3 =>
            cases n3
            cases n1 with
            | @tup a xs _ hq n =>
              cases n2 with
              | @tup b ys _ hq2 n2 =>
                exact ⟨a, b, xs, ys, rfl, .inr ⟨seqT_same g.fh hq.t, seqT_same g.fh hq2.t, q1 F1 H1 _ g (src_zipT fun F' H' l => ⟨(later_tup hq.t n l).1, (later_tup hq.t n l).2.1, (later_tup hq.t n l).2.2, (later_tup hq2.t n2 l).2.1, (later_tup hq2.t n2 l).2.2⟩)⟩⟩
      · cases e
end

/-! ### list comprehensions -/
def compL (tg : D → Env → Res Env) (tt : Env → Res Bool) (elt : Env → Res D) (ρ : Env) : List D → Res (List D)
  | [] => .ok []
  | d :: ds => do
    let ρ1 ← tg d ρ
    let b ← tt ρ1
    if b = true then do
      let y ← elt ρ1
      let ys ← compL tg tt elt ρ ds
      .ok (y :: ys)
    else compL tg tt elt ρ ds
/-- nothing may be raised -/
def nx {α : Type} : Res α → Res α
  | .exc _ => .bad
  | r => r
def cYes : Env → Res Bool := fun _ => .ok true
def cComp (own : List Nat) (tup : Bool) (is : List Nat) (src : Env → Res (List D)) (tt : Env → Res Bool) (elt : Env → Res D) : Env → Res D := fun ρ => do
  let ds ← src ρ
  if ds.length ≤ line then do
    let ys ← nx (compL (cTg tup is) tt elt (wipeE ρ own) ds)
    .ok (.list ys)
  else .bad
theorem wipe_set {α : Type} : ∀ (vs : List Nat) (σ : List (Option V)) (i : Nat) (x : Option V), i ∈ vs → L2.wipe (σ.set i x) vs = L2.wipe σ vs
  | [], _, _, _, h => by simp at h
  | v :: vs, σ, i, x, h => by
    unfold L2.wipe
    by_cases hi : i ∈ vs
    · rw [wipe_set (α := α) vs σ i x hi]
    · have e : i = v := by simpa [hi] using h
      subst e
      have : ∀ (vs : List Nat) (σ : List (Option V)), i ∉ vs → L2.wipe (σ.set i x) vs = (L2.wipe σ vs).set i x := by
        intro vs
        induction vs with
        | nil => intro σ _; rfl
        | cons w ws ih =>
          intro σ h
          unfold L2.wipe
          rw [ih σ (fun z => h (by simp [z])), List.set_comm _ _ (fun z => h (by simp [z]))]
      rw [this vs σ hi, List.set_set]
theorem wipe_setAll : ∀ (is : List Nat) (xs : List V) (vs : List Nat) (σ : List (Option V)), (∀ i ∈ is, i ∈ vs) → L2.wipe (setAll σ is xs) vs = L2.wipe σ vs
  | [], [], _, _, _ => rfl
  | [], _ :: _, _, _, _ => rfl
  | _ :: _, [], _, _, _ => rfl
  | i :: is, x :: xs, vs, σ, h => by
    unfold setAll
    rw [wipe_setAll is xs vs _ fun j hj => h j (by simp [hj]), wipe_set (α := Nat) vs σ i (some x) (h i (by simp))]
theorem wipe_wipe : ∀ (vs us : List Nat) (σ : List (Option V)), (∀ i ∈ vs, i ∈ us) → L2.wipe (L2.wipe σ vs) us = L2.wipe σ us
  | [], _, _, _ => rfl
  | v :: vs, us, σ, h => by
    show L2.wipe ((L2.wipe σ vs).set v none) us = _
    rw [wipe_set (α := Nat) us _ v none (h v (by simp)), wipe_wipe vs us σ fun i hi => h i (by simp [hi])]
section
variable {X : Cx} {W : WX} {F0 H0 : Hp} {O : List Nat}
abbrev noW : WX := fun _ _ _ _ => False
theorem nx_ok {α : Type} {r : Res α} {a : α} (h : nx r = .ok a) : r = .ok a := by
  cases r with
  | ok b => exact h
  | exc x => cases h
  | bad => cases h
theorem RQ.nx {α : Type} {K : PySem.W.Frag} {mg : Str → Option Value} {σ : St} {F H : Hp} {r : Res α} {Q : α → Prop} (h : RQ K mg W σ F H (nx r) Q) : ∃ a, r = .ok a ∧ Q a := by
  cases r with
  | ok b => exact ⟨b, rfl, h⟩
  | exc x => exact False.elim h
  | bad => exact False.elim h
theorem RQ.of_ok {α : Type} {K : PySem.W.Frag} {mg : Str → Option Value} {σ : St} {F H : Hp} {r : Res α} {a : α} {Q : α → Prop} (h : r = .ok a) (q : Q a) : RQ K mg W σ F H r Q := by rw [h]; exact q
/-- the reading of a comprehension -/
theorem lc_rd {own : List (Str × Nat)} {tup : Bool} {is : List Nat} {src : Env → Res (List D)} {tt : Env → Res Bool} {elt : Env → Res D} (hown : ∀ i ∈ is, i ∈ own.map (·.2))
    (σ : St) (H : Hp) (Q : VK) (h : xO X W F0 H0 O (cComp (own.map (·.2)) tup is src tt elt) σ H Q) :
    tLc (xI X W F0 H0 O true tup src) (xG X F0 H0 O tup is) (tT X.K X.mg noW F0 H0 O tt) (tE X.K X.mg noW F0 H0 O elt) (own.map (·.2)) σ H Q := by
  obtain ⟨ρ, F, rel, q⟩ := h
  refine ⟨ρ, F, rel, (RQ.seq q).imp fun ds _ q1 F1 H1 J g1 S Dd hD => ?_⟩
  by_cases hl : ds.length ≤ line
  · rw [if_pos hl] at q1
    obtain ⟨ys, hys, q2⟩ := RQ.nx (RQ.seq q1)
    have S : Src tup X.K (LtC F1 H1) J ds := S
    have fD : F1 Dd = none := noneOf g1.fh hD
    refine ⟨fun i m H2 => m = ds.length - i ∧ i ≤ ds.length ∧ ∃ F2 us zs rs, Gr F1 H1 F2 H2 ∧ H2 Dd = some (.lst us) ∧ F2 Dd = none ∧ DnL X.K F2 us zs ∧ compL (cTg tup is) tt elt (wipeE ρ (own.map (·.2))) (ds.drop i) = .ok rs ∧ zs ++ rs = ys ∧ us.length ≤ i, ⟨_, rfl, Nat.zero_le _, F1, [], [], ys, Gr.out g1.fh hD, upd_same, fD, .nil, hys, rfl, Nat.le_refl _⟩, ?_⟩
    rintro i m H2 ⟨rfl, hi, F2, us, zs, rs, g2, hu, hf, nu, hc, hz, hlen⟩
    by_cases hlt : i < ds.length
    · refine .inr ⟨S.go i F2 H2 g2 hlt, fun H' => i + 1 ≤ ds.length ∧ ∃ F2 us zs rs, Gr F1 H1 F2 H' ∧ H' Dd = some (.lst us) ∧ F2 Dd = none ∧ DnL X.K F2 us zs ∧ compL (cTg tup is) tt elt (wipeE ρ (own.map (·.2))) (ds.drop (i + 1)) = .ok rs ∧ zs ++ rs = ys ∧ us.length ≤ i + 1, fun H' hn => ⟨ds.length - (i + 1), by omega, rfl, hn.1, hn.2⟩, fun x H3 yl => ?_⟩
      obtain ⟨F3, g3, nx3⟩ := S.yld i ds[i] F2 H2 x H3 g2 (List.getElem?_eq_getElem hlt) yl
      have g23 := g2.trans g3
      rw [List.drop_eq_getElem_cons hlt] at hc
      obtain ⟨ρ1, e1, hc⟩ := Res.bind_ok (show (cTg tup is ds[i] (wipeE ρ (own.map (·.2))) >>= fun ρ1 => (do
        let b ← tt ρ1
        if b = true then do
          let y ← elt ρ1
          let ys ← compL (cTg tup is) tt elt (wipeE ρ (own.map (·.2))) (ds.drop (i + 1))
          Res.ok (y :: ys)
        else compL (cTg tup is) tt elt (wipeE ρ (own.map (·.2))) (ds.drop (i + 1)))) = .ok rs from hc)
      have relw := ((rel.grow g1).grow g23).wipe (own.map (·.2))
      refine ⟨_, F3, ds[i], ρ1, relw, nx3, e1, ?_⟩
      rintro σ' ⟨vs, rfl⟩ rel2
      refine ⟨by rw [wipe_setAll _ _ _ _ hown, wipe_wipe _ _ _ fun _ h => h], ?_⟩
      obtain ⟨b, e2, hc⟩ := Res.bind_ok hc
      refine ⟨ρ1, F3, rel2, RQ.of_ok e2 fun F4 H4 g4 => ?_⟩
      have g34 := g3.trans g4
      have g24 := g2.trans g34
      have keepD : ∀ {F5 H5 : Hp}, Gr F2 H2 F5 H5 → F5 Dd = none := fun {F5 H5} g => by
        cases z : F5 Dd with
        | none => rfl
        | some o =>
          rcases g.nw Dd o z with w | w
          · rw [hf] at w; cases w
          · rw [hu] at w; cases w
      cases b with
      | true =>
        rw [if_pos rfl] at hc
        obtain ⟨y, e3, hc⟩ := Res.bind_ok hc
        obtain ⟨rs', e4, hc⟩ := Res.bind_ok hc
        cases hc
        refine iteT ⟨ρ1, F4, rel2.grow g4, RQ.of_ok e3 fun v F5 H5 g5 nv => ?_⟩
        have g25 := g34.trans g5
        refine ⟨us, g25.hh _ _ hu, Nat.lt_of_le_of_lt hlen (by have := line_eq; omega), by omega, F5, us ++ [v], zs ++ [y], rs', ?_, upd_same, keepD g25, (nu.mono g25.ff).append (.one nv), e4, by rw [← hz]; simp, by rw [List.length_append]; simp; omega⟩
        have gg := g2.trans g25
        exact ⟨fun b o e => by rw [upd_ne (ne_of_none e hD)]; exact gg.hh b o e, gg.ff, fun b o e => by
          rw [upd_ne (ne_of_none e (keepD g25))]; exact gg.fh b o e, gg.nw⟩
      | false =>
        rw [if_neg Bool.false_ne_true] at hc
        exact iteF ⟨by omega, F4, us, zs, rs, g24, g34.hh _ _ hu, keepD g34, nu.mono g34.ff, hc, hz, by omega⟩
    · have e : i = ds.length := by omega
      subst e
      rw [List.drop_length] at hc
      cases hc
      rw [List.append_nil] at hz
      subst hz
      refine .inl ⟨S.stop F2 H2 g2, ?_⟩
      exact q2 _ F2 H2 (g1.trans g2) ⟨Dd, us, rfl, g1.hh.free hD, hf, hu, nu⟩
  · rw [if_neg hl] at q1; exact False.elim q1
end
end Ev

set_option Elab.async false
set_option linter.all false
set_option maxRecDepth 100000
set_option maxHeartbeats 4000000
/-! The evaluator, part G: statements. -/
namespace Ev
open PySem L2

/-- how a statement ends -/
inductive Fl where
  | next (ρ : Env)
  | ret (d : D)
  | brk (ρ : Env)
  | cnt (ρ : Env)
  | exc (x : Ex)
  | bad
def Fl.of (r : Res α) (k : α → Fl) : Fl := match r with
  | .ok a => k a
  | .exc x => .exc x
  | .bad => .bad
@[simp] theorem Fl.of_ok {α : Type} (a : α) (k : α → Fl) : Fl.of (.ok a) k = k a := rfl
@[simp] theorem Fl.of_exc {α : Type} (x : Ex) (k : α → Fl) : Fl.of (.exc x : Res α) k = .exc x := rfl
@[simp] theorem Fl.of_bad {α : Type} (k : α → Fl) : Fl.of (.bad : Res α) k = .bad := rfl
abbrev Cmd := Env → Fl
def cNext : Cmd := fun ρ => .next ρ
def cBrk : Cmd := fun ρ => .brk ρ
def cCnt : Cmd := fun ρ => .cnt ρ
def cSeqS (a b : Cmd) : Cmd := fun ρ => match a ρ with
  | .next ρ' => b ρ'
  | r => r
def cRet (f : Env → Res D) : Cmd := fun ρ => Fl.of (f ρ) .ret
def cRetN : Cmd := fun _ => .ret .none
def cDrop (f : Env → Res D) : Cmd := fun ρ => Fl.of (f ρ) fun _ => .next ρ
def cIfS (c : Env → Res Bool) (a b : Cmd) : Cmd := fun ρ => Fl.of (c ρ) fun k => if k = true then a ρ else b ρ
def cAsg (tup : Bool) (is : List Nat) (f : Env → Res D) : Cmd := fun ρ => Fl.of (f ρ) fun d => Fl.of (cTg tup is d ρ) .next
def cPar (is : List Nat) (fs : List (Env → Res D)) : Cmd := fun ρ => Fl.of (cs fs ρ) fun ds => .next (setAll ρ is ds)
def forL (tup : Bool) (is : List Nat) (body : Cmd) : List D → Cmd
  | [] => fun ρ => .next ρ
  | d :: ds => fun ρ => Fl.of (cTg tup is d ρ) fun ρ1 => match body ρ1 with
    | .next ρ2 => forL tup is body ds ρ2
    | .cnt ρ2 => forL tup is body ds ρ2
    | .brk ρ2 => .next ρ2
    | r => r
def cFor (tup : Bool) (is : List Nat) (src : Env → Res (List D)) (body : Cmd) : Cmd := fun ρ => Fl.of (src ρ) fun ds => forL tup is body ds ρ
def whileL (c : Env → Res Bool) (body : Cmd) : Nat → Cmd
  | 0 => fun _ => .bad
  | n + 1 => fun ρ => Fl.of (c ρ) fun k => if k = true then (match body ρ with
    | .next ρ2 => whileL c body n ρ2
    | .cnt ρ2 => whileL c body n ρ2
    | .brk ρ2 => .next ρ2
    | r => r) else .next ρ
/-- a slot's value changed in place -/
def cMut (i : Nat) (g : D → Option D) : Cmd := fun ρ => match ρ[i]? with
  | some (some d) => match g d with
    | some d' => .next (ρ.set i (some d'))
    | none => .bad
  | _ => .bad
def putK' (es : List (D × D)) (k : D) (v : D) : List (D × D) := if es.any (fun e => decide (keyOf e.1 = keyOf k)) then es.map (fun e => if keyOf e.1 = keyOf k then (e.1, v) else e) else es ++ [(k, v)]
def setG (k v : D) : D → Option D
  | .list xs => match k with
    | .int i => (ixN xs.length i).map fun j => .list (xs.set j v)
    | _ => none
  | .dict es => match keyOf k with
    | some _ => if es.length < line then some (.dict (putK' es k v)) else none
    | none => none
  | _ => none
/-- o[k] = v: the value first, then the key -/
def cSetI (i : Nat) (k v : Env → Res D) : Cmd := fun ρ => Fl.of (v ρ) fun dv => Fl.of (cSlot i ρ) fun _ => Fl.of (k ρ) fun dk => cMut i (setG dk dv) ρ
def appG (v : D) : D → Option D
  | .list xs => if xs.length < line then some (.list (xs ++ [v])) else none
  | _ => none
def cApp (i : Nat) (v : Env → Res D) : Cmd := fun ρ => Fl.of (v ρ) fun dv => cMut i (appG dv) ρ
/-- a list's append: the slot holds a list -/
def cAppend (i : Nat) (v : Env → Res D) : Cmd := fun ρ => Fl.of (cSlot i ρ) fun d => Fl.of (match d with | .list _ => .ok d | _ => (.bad : Res D)) fun _ => cApp i v ρ

def FQ (K : PySem.W.Frag) (mg : Str → Option Value) (W : WX) (F0 H0 : Hp) (O1 Ob : List Nat) (fr : Bool) (E : Ends) (F : Hp) (r : Fl) : Prop := match r with
  | .next ρ => ∀ σ' F' H', Same F F' → Rel K F0 H0 O1 ρ σ' F' H' → E.nx σ' H'
  | .ret d => ∀ v F' H', Gr F0 H0 F' H' → (if fr = true then Owv K H0 F' H' v d else Dn K F' v d) → E.rt v H'
  | .brk ρ => ∀ σ' F' H', Same F F' → Rel K F0 H0 Ob ρ σ' F' H' → E.bk σ' H'
  | .cnt ρ => ∀ σ' F' H', Same F F' → Rel K F0 H0 Ob ρ σ' F' H' → E.ct σ' H'
  | .exc x => ∀ cls d σ' H', Same H0 H' → ExIs K mg H' x cls d → W cls d σ' H'
  | .bad => False
def tSt (K : PySem.W.Frag) (mg : Str → Option Value) (W : WX) (F0 H0 : Hp) (O O1 Ob : List Nat) (fr : Bool) (f : Cmd) : TS := fun E σ H => ∃ ρ F, Rel K F0 H0 O ρ σ F H ∧ FQ K mg W F0 H0 O1 Ob fr E F (f ρ)
section
variable {K : PySem.W.Frag} {mg : Str → Option Value} {W : WX} {F0 H0 F H F' H' : Hp} {O O1 Ob : List Nat} {fr : Bool} {E : Ends} {ρ : Env} {σ : St}
theorem FQ.later {r : Fl} (h : FQ K mg W F0 H0 O1 Ob fr E F r) (s : Same F F') : FQ K mg W F0 H0 O1 Ob fr E F' r := by
  cases r with
  | next ρ => exact fun σ' F2 H' z => h σ' F2 H' (s.trans z)
  | ret d => exact h
  | brk ρ => exact fun σ' F2 H' z => h σ' F2 H' (s.trans z)
  | cnt ρ => exact fun σ' F2 H' z => h σ' F2 H' (s.trans z)
  | exc x => exact h
  | bad => exact h
theorem Rel.gr (r : Rel K F0 H0 O ρ σ F H) : Gr F0 H0 F H := ⟨r.s0, r.sf0, r.sfh, r.nw⟩
/-- an expression's result, then the rest -/
theorem FQ.of {α : Type} {r : Res α} {k : α → Fl} (s0 : Same H0 H) (h : FQ K mg W F0 H0 O1 Ob fr E F (Fl.of r k)) : RQ K mg W σ F H r fun a => FQ K mg W F0 H0 O1 Ob fr E F (k a) := by
  cases r with
  | ok a => exact h
  | exc x => exact fun cls d H' e z => h cls d σ H' (s0.trans e) z
  | bad => exact h
theorem Rel.setO (r : Rel K F0 H0 O ρ σ F H) (g : Gr F H F' H') {i : Nat} {d : D} {v : V} (hi : i ∈ O) (w : Owv K H F' H' v d) : Rel K F0 H0 O (ρ.set i (some d)) (σ.set i (some v)) F' H' := by
  have r' := r.grow g
  -- a new container stands at an address that no other owner has
  have apart : ∀ {j : Nat} {e : D} {a : Addr}, j ∈ O → ρ[j]? = some (some e) → isC e = true → σ[j]? = some (some (.ref a)) → isC d = true → v = .ref a → False := fun {j e a} hj he hc hs hd hv => by
    obtain ⟨v', e1, e2⟩ := r.ow j e hj he
    rw [hs] at e1; cases e1
    subst hv
    have h1 : H a = none := by
      cases d with
      | list ds => obtain ⟨a', xs, q1, q2, _⟩ := w; cases q1; exact q2
      | dict ds => obtain ⟨a', xs, q1, q2, _⟩ := w; cases q1; exact q2
      | _ => cases hd
    cases e with
    | list ds => obtain ⟨a', xs, q1, q2, q3, q4, _⟩ := e2; cases q1; rw [h1] at q4; cases q4
    | dict ds => obtain ⟨a', xs, q1, q2, q3, q4, _⟩ := e2; cases q1; rw [h1] at q4; cases q4
    | _ => cases hc
  refine ⟨by simp [r.len], r'.sfh, r'.s0, r'.sf0, r'.nw, fun j e h1 h2 => ?_, fun j e h1 h2 => ?_, fun j k d' e' a h1 h2 h3 h4 h5 h6 h7 h8 h9 => ?_⟩
  · have hj : i ≠ j := fun z => h1 (z ▸ hi)
    rw [List.getElem?_set_ne hj] at h2 ⊢
    exact r'.fz j e h1 h2
  · by_cases hj : i = j
    · subst hj
      have hl : i < ρ.length := by
        obtain ⟨q, _⟩ := List.getElem?_eq_some_iff.mp h2
        simpa using q
      rw [List.getElem?_set_self hl] at h2
      cases h2
      exact ⟨v, List.getElem?_set_self (by rw [← r.len]; exact hl), w.z fun a z => r.free z⟩
    · rw [List.getElem?_set_ne hj] at h2 ⊢
      exact r'.ow j e h1 h2
  · have self : ∀ {m : Nat} {f : D} {x : V}, i = m → (ρ.set i (some d))[m]? = some (some f) → (σ.set i (some v))[m]? = some (some x) → f = d ∧ x = v := fun {m f x} e q1 q2 => by
      subst e
      have hl : i < ρ.length := by
        obtain ⟨q, _⟩ := List.getElem?_eq_some_iff.mp q1
        simpa using q
      rw [List.getElem?_set_self hl] at q1
      rw [List.getElem?_set_self (by rw [← r.len]; exact hl)] at q2
      cases q1; cases q2; exact ⟨rfl, rfl⟩
    by_cases hj : i = j
    · obtain ⟨rfl, ev⟩ := self hj h4 h8
      have hk : i ≠ k := fun z => h3 (hj.symm.trans z)
      rw [List.getElem?_set_ne hk] at h5 h9
      exact apart h2 h5 h7 h9 h6 ev.symm
    · by_cases hk : i = k
      · obtain ⟨rfl, ev⟩ := self hk h5 h9
        rw [List.getElem?_set_ne hj] at h4 h8
        exact apart h1 h4 h6 h8 h7 ev.symm
      · rw [List.getElem?_set_ne hj] at h4 h8
        rw [List.getElem?_set_ne hk] at h5 h9
        exact r.ap j k d' e' a h1 h2 h3 h4 h5 h6 h7 h8 h9
/-- an owned object changed in place -/
theorem Rel.mut (r : Rel K F0 H0 O ρ σ F H) {i : Nat} {a : Addr} {d d' : D} {o : HO} (hi : i ∈ O) (hd : ρ[i]? = some (some d)) (hc : isC d = true) (hs : σ[i]? = some (some (.ref a))) (hc' : isC d' = true)
    (w : F a = none → H0 a = none → Owv K H0 F (upd H a o) (.ref a) d') : Rel K F0 H0 O (ρ.set i (some d')) σ F (upd H a o) := by
  obtain ⟨v, e1, e2⟩ := r.ow i d hi hd
  rw [hs] at e1; cases e1
  have facts : F a = none ∧ H0 a = none := by
    cases d with
    | list ds => obtain ⟨a', xs, q1, q2, q3, q4, _⟩ := e2; cases q1; exact ⟨q3, q2⟩
    | dict ds => obtain ⟨a', xs, q1, q2, q3, q4, _⟩ := e2; cases q1; exact ⟨q3, q2⟩
    | _ => cases hc
  obtain ⟨fa, za⟩ := facts
  have hl : i < ρ.length := (List.getElem?_eq_some_iff.mp hd).1
  refine ⟨by simp [r.len], fun b u e => by rw [upd_ne (ne_of_none e fa)]; exact r.sfh b u e, fun b u e => by rw [upd_ne (ne_of_none e za)]; exact r.s0 b u e, r.sf0, r.nw, fun j e h1 h2 => ?_, fun j e h1 h2 => ?_, fun j k d1 e' a' h1 h2 h3 h4 h5 h6 h7 h8 h9 => ?_⟩
  · have hj : i ≠ j := fun z => h1 (z ▸ hi)
    rw [List.getElem?_set_ne hj] at h2
    exact r.fz j e h1 h2
  · by_cases hj : i = j
    · subst hj
      rw [List.getElem?_set_self hl] at h2
      cases h2
      exact ⟨_, hs, w fa za⟩
    · rw [List.getElem?_set_ne hj] at h2
      obtain ⟨v', p1, p2⟩ := r.ow j e h1 h2
      refine ⟨v', p1, ?_⟩
      have ne : ∀ b, isC e = true → v' = .ref b → b ≠ a := fun b hb ev z => r.ap i j d e a hi h1 hj hd h2 hc hb hs (by rw [p1, ev, z])
      cases e with
      | list ds => obtain ⟨b, xs, q1, q2, q3, q4, q5⟩ := p2; exact ⟨b, xs, q1, q2, q3, by rw [upd_ne (ne b rfl q1)]; exact q4, q5⟩
      | dict ds => obtain ⟨b, xs, q1, q2, q3, q4, q5⟩ := p2; exact ⟨b, xs, q1, q2, q3, by rw [upd_ne (ne b rfl q1)]; exact q4, q5⟩
      | none => exact p2
      | bool _ => exact p2
      | int _ => exact p2
      | str _ => exact p2
      | tuple _ => exact p2
  · have back : ∀ {m : Nat} {f : D}, (ρ.set i (some d'))[m]? = some (some f) → isC f = true → ∃ f', ρ[m]? = some (some f') ∧ isC f' = true := fun {m f} q hf => by
      by_cases hm : i = m
      · subst hm; exact ⟨d, hd, hc⟩
      · rw [List.getElem?_set_ne hm] at q; exact ⟨f, q, hf⟩
    obtain ⟨f1, g1, g2⟩ := back h4 h6
    obtain ⟨f2, g3, g4⟩ := back h5 h7
    exact r.ap j k f1 f2 a' h1 h2 h3 g1 g3 g2 g4 h8 h9
end

section
variable {X : Cx} {W : WX} {F0 H0 : Hp} {O O1 Ob : List Nat} {fr : Bool} {pos : Pos}
abbrev xS (X : Cx) (W : WX) (F0 H0 : Hp) (O O1 Ob : List Nat) (fr : Bool) (f : Cmd) : TS := tSt X.K X.mg W F0 H0 O O1 Ob fr f
theorem pss_nilX : PSs X [] (xS X W F0 H0 O O Ob fr cNext) := PSs.of pss_nil fun E σ H ⟨ρ, F, rel, q⟩ => q σ F H (Same.refl _) rel
theorem pss_consX {st : Stmt} {rest : List Stmt} {a b : Cmd} {O2 : List Nat} (h1 : PS X st (xS X W F0 H0 O O1 Ob fr a)) (h2 : PSs X rest (xS X W F0 H0 O1 O2 Ob fr b)) : PSs X (st :: rest) (xS X W F0 H0 O O2 Ob fr (cSeqS a b)) :=
  PSs.of (pss_cons h1 h2) fun E σ H ⟨ρ, F, rel, q⟩ => by
    refine ⟨ρ, F, rel, ?_⟩
    unfold cSeqS at q
    cases e : a ρ with
    | next ρ' =>
      rw [e] at q
      exact fun σ' F' H' s rel' => ⟨ρ', F', rel', FQ.later (show FQ X.K X.mg W F0 H0 O2 Ob fr E F (b ρ') from q) s⟩
    | ret d => rw [e] at q; exact q
    | brk ρ' => rw [e] at q; exact q
    | cnt ρ' => rw [e] at q; exact q
    | exc x => rw [e] at q; exact q
    | bad => rw [e] at q; exact q
/-- fewer owners ahead, more wanted behind -/
theorem PS.owners {st : Stmt} {f : Cmd} {O' : List Nat} (h : PS X st (xS X W F0 H0 O' O1 Ob fr f)) (i : ∀ k ∈ O', k ∈ O) : PS X st (xS X W F0 H0 O O1 Ob fr f) :=
  PS.of h fun E σ H ⟨ρ, F, rel, q⟩ => by
    obtain ⟨F', s, rel'⟩ := rel.sub i
    exact ⟨ρ, F', rel', q.later s⟩
theorem PSs.owners {st : List Stmt} {f : Cmd} {O' : List Nat} (h : PSs X st (xS X W F0 H0 O' O1 Ob fr f)) (i : ∀ k ∈ O', k ∈ O) : PSs X st (xS X W F0 H0 O O1 Ob fr f) :=
  PSs.of h fun E σ H ⟨ρ, F, rel, q⟩ => by
    obtain ⟨F', s, rel'⟩ := rel.sub i
    exact ⟨ρ, F', rel', q.later s⟩
theorem FQ.ends {K : PySem.W.Frag} {mg : Str → Option Value} {E : Ends} {F : Hp} {r : Fl} {O2 : List Nat} (h : FQ K mg W F0 H0 O1 Ob fr E F r) (i : ∀ k ∈ O1, k ∈ O2) : FQ K mg W F0 H0 O2 Ob fr E F r := by
  cases r with
  | next ρ =>
    intro σ' F' H' s rel
    obtain ⟨F2, s2, rel2⟩ := rel.sub i
    exact h σ' F2 H' (s.trans s2) rel2
  | ret d => exact h
  | brk ρ => exact h
  | cnt ρ => exact h
  | exc x => exact h
  | bad => exact h
theorem PSs.after {st : List Stmt} {f : Cmd} {O2 : List Nat} (h : PSs X st (xS X W F0 H0 O O2 Ob fr f)) (i : ∀ k ∈ O1, k ∈ O2) : PSs X st (xS X W F0 H0 O O1 Ob fr f) :=
  PSs.of h fun E σ H ⟨ρ, F, rel, q⟩ => ⟨ρ, F, rel, q.ends i⟩
theorem ps_passX : PS X (.Pass pos) (xS X W F0 H0 O O Ob fr cNext) := PS.of ps_pass fun E σ H ⟨ρ, F, rel, q⟩ => q σ F H (Same.refl _) rel
theorem ps_brkX (i : ∀ k ∈ Ob, k ∈ O) : PS X (.Break pos) (xS X W F0 H0 O O1 Ob fr cBrk) := PS.of ps_break fun E σ H ⟨ρ, F, rel, q⟩ => by
  obtain ⟨F', s, rel'⟩ := rel.sub i
  exact q σ F' H s rel'
theorem ps_cntX (i : ∀ k ∈ Ob, k ∈ O) : PS X (.Continue pos) (xS X W F0 H0 O O1 Ob fr cCnt) := PS.of ps_continue fun E σ H ⟨ρ, F, rel, q⟩ => by
  obtain ⟨F', s, rel'⟩ := rel.sub i
  exact q σ F' H s rel'
theorem ps_dropX {e : Expr} {f : Env → Res D} (he : PE X e (xE X W F0 H0 O f)) (hs : swapsWith e none pos.line X.env = pure false) : PS X (.Expr e pos) (xS X W F0 H0 O O Ob fr (cDrop f)) :=
  PS.of (ps_expr he hs) fun E σ H ⟨ρ, F, rel, q⟩ => ⟨ρ, F, rel, (FQ.of rel.s0 q).imp fun d _ q1 v F' H' g n => q1 σ F' H' g.ff (rel.grow g)⟩
/-- return: nothing is changed any more -/
theorem ps_retX {e : Expr} {f : Env → Res D} (he : PE X e (xE X W F0 H0 [] f)) : PS X (.Return (some e) pos) (xS X W F0 H0 O O1 Ob false (cRet f)) :=
  PS.owners (O' := []) (PS.of (ps_ret he) fun E σ H ⟨ρ, F, rel, q⟩ => ⟨ρ, F, rel, (FQ.of rel.s0 q).imp fun d _ q1 v F' H' g n => q1 v F' H' (rel.gr.trans g) n⟩) fun k h => absurd h (by simp)
theorem ps_retNX : PS X (.Return none pos) (xS X W F0 H0 O O1 Ob fr cRetN) :=
  PS.of ps_retN fun E σ H ⟨ρ, F, rel, q⟩ => q .non F H rel.gr (by cases fr <;> exact .non)
/-- a fresh value handed back -/
theorem ps_retO {e : Expr} {f : Env → Res D} (he : PE X e (xO X W F0 H0 [] f)) : PS X (.Return (some e) pos) (xS X W F0 H0 O O1 Ob true (cRet f)) :=
  PS.owners (O' := []) (PS.of (ps_ret he) fun E σ H ⟨ρ, F, rel, q⟩ => ⟨ρ, F, rel, (FQ.of rel.s0 q).imp fun d _ q1 v F' H' g n => q1 v F' H' (rel.gr.trans g) (n.z fun a z => rel.free z)⟩) fun k h => absurd h (by simp)
/-- an owned name handed back -/
theorem ps_retOwn {i : Nat} {x : Str} {p : Pos} (hi : i ∈ O) (hN : X.N[i]? = some x) (hv : Vis X.env.scope x) (hd : (x == ("__debug__" : Str)) = false) (hcd : (x == ("__classdict__" : Str)) = false) : PS X (.Return (some (.Name x p)) pos) (xS X W F0 H0 O O1 Ob true (cRet (cSlot i))) :=
  PS.of (ps_ret (pe_var hN hv hd hcd)) fun E σ H ⟨ρ, F, rel, q⟩ => by
    unfold cRet cSlot at q
    split at q
    · rename_i d e
      obtain ⟨v, e1, e2⟩ := rel.ow i d hi e
      exact ⟨v, e1, q v F H rel.gr e2⟩
    · exact False.elim q
theorem ps_ifX {c : Expr} {a b : List Stmt} {fc : Env → Res Bool} {fa fb : Cmd} (hc : PT X c (xT X W F0 H0 O fc)) (ha : PSs X a (xS X W F0 H0 O O1 Ob fr fa)) (hb : PSs X b (xS X W F0 H0 O O1 Ob fr fb)) : PS X (.If c a b pos) (xS X W F0 H0 O O1 Ob fr (cIfS fc fa fb)) :=
  PS.of (ps_if hc ha hb) fun E σ H ⟨ρ, F, rel, q⟩ => by
    refine ⟨ρ, F, rel, (FQ.of rel.s0 q).imp fun k _ q1 F' H' g => ?_⟩
    cases k with
    | true => exact iteT ⟨ρ, F', rel.grow g, FQ.later (show FQ X.K X.mg W F0 H0 O1 Ob fr E F (fa ρ) from q1) g.ff⟩
    | false => exact iteF ⟨ρ, F', rel.grow g, FQ.later (show FQ X.K X.mg W F0 H0 O1 Ob fr E F (fb ρ) from q1) g.ff⟩
/-! ### assignments -/
theorem asg_rd {tup : Bool} {is : List Nat} {f : Env → Res D} (σ : St) (H : Hp) (E : Ends) (h : xS X W F0 H0 O O Ob fr (cAsg tup is f) E σ H) : tAsg (xE X W F0 H0 O f) (xG X F0 H0 O tup is) E σ H := by
  obtain ⟨ρ, F, rel, q⟩ := h
  refine ⟨ρ, F, rel, (FQ.of rel.s0 q).imp fun d _ q1 v F' H' g n => ?_⟩
  cases e : cTg tup is d ρ with
  | ok ρ' => rw [e] at q1; exact ⟨ρ, F', d, ρ', rel.grow g, (.of n), e, fun σ' _ rel' => q1 σ' F' H' g.ff rel'⟩
  | exc x =>
    unfold cTg at e
    cases tup with
    | false => cases e
    | true =>
      cases d with
      | tuple ds => dsimp only at e; split at e <;> cases e
      | _ => cases e
  | bad => rw [e] at q1; exact False.elim q1
theorem ps_asgX {tg e : Expr} {tup : Bool} {is : List Nat} {f : Env → Res D} (he : PE X e (xE X W F0 H0 O f)) (hg : PG X tg (xG X F0 H0 O tup is)) (hs : swapsWithSole [tg] e pos.line X.env = pure false) (hw : swappedStores [tg] e X.env = pure none)
    (h1 : (assignEach [tg] X.env).map (·.2) = [assign tg X.env]) : PS X (.Assign [tg] e pos) (xS X W F0 H0 O O Ob fr (cAsg tup is f)) := PS.of (ps_asg he hg hs hw h1) fun E σ H q => asg_rd σ H E q
/-- name = e, the name owned: e makes its value -/
theorem own_rd {i : Nat} {f : Env → Res D} (hi : i ∈ O) (σ : St) (H : Hp) (E : Ends) (h : xS X W F0 H0 O O Ob fr (cAsg false [i] f) E σ H) : tAsg (xO X W F0 H0 O f) (gName i) E σ H := by
  obtain ⟨ρ, F, rel, q⟩ := h
  exact ⟨ρ, F, rel, (FQ.of rel.s0 q).imp fun d _ q1 v F' H' g w => q1 _ F' H' g.ff (rel.setO g hi w)⟩
theorem name_rd {i : Nat} {f : Env → Res D} (hi : i ∉ O) (σ : St) (H : Hp) (E : Ends) (h : xS X W F0 H0 O O Ob fr (cAsg false [i] f) E σ H) : tAsg (xE X W F0 H0 O f) (gName i) E σ H := by
  obtain ⟨ρ, F, rel, q⟩ := h
  exact ⟨ρ, F, rel, (FQ.of rel.s0 q).imp fun d _ q1 v F' H' g n => q1 _ F' H' g.ff ((rel.grow g).set hi n)⟩
/-- a, b = x, y -/
theorem par_rd {i j : Nat} {fs : List (Env → Res D)} (hi : i ∉ O) (hj : j ∉ O) (h2 : fs.length = 2) (σ : St) (H : Hp) (E : Ends) (h : xS X W F0 H0 O O Ob fr (cPar [i, j] fs) E σ H) : tPar i j (xA X W F0 H0 O (cs fs)) E σ H := by
  obtain ⟨ρ, F, rel, q⟩ := h
  refine ⟨ρ, F, rel, (FQ.of rel.s0 q).imp fun ds hds q1 vs F' H' g n => ?_⟩
  match fs, h2 with
  | [f1, f2], _ =>
    obtain ⟨a, e1, e2⟩ := Res.bind_ok (show (f1 ρ >>= fun a => (cs [f2] ρ >>= fun as => Res.ok (a :: as))) = .ok ds from hds)
    obtain ⟨r, e3, e4⟩ := Res.bind_ok e2
    obtain ⟨b, e5, e6⟩ := Res.bind_ok (show (f2 ρ >>= fun a => (cs [] ρ >>= fun as => Res.ok (a :: as))) = .ok r from e3)
    cases e6
    cases e4
    cases n with
    | cons n1 n2 =>
      cases n2 with
      | cons n2 n3 =>
        cases n3
        exact ⟨_, _, rfl, q1 _ F' H' g.ff (((rel.grow g).set hi n1).set hj n2)⟩
/-! ### loops -/
theorem forL_exc {tup : Bool} {is : List Nat} {d : D} {ρ : Env} {x : Ex} : cTg tup is d ρ ≠ .exc x := by
  intro e
  unfold cTg at e
  cases tup with
  | false => cases e
  | true =>
    cases d with
    | tuple ds => dsimp only at e; split at e <;> cases e
    | _ => cases e
theorem for_rd {tup : Bool} {is : List Nat} {src : Env → Res (List D)} {body : Cmd} {Ol : List Nat} (ho : ∀ k ∈ O1, k ∈ Ol) (σ : St) (H : Hp) (E : Ends) (h : xS X W F0 H0 Ol O1 Ob fr (cFor tup is src body) E σ H) :
    tFor (xI X W F0 H0 Ol false tup src) (xG X F0 H0 Ol tup is) (xS X W F0 H0 Ol Ol Ol fr body) E σ H := by
  obtain ⟨ρ, F, rel, q⟩ := h
  refine ⟨ρ, F, rel, (FQ.of rel.s0 q).imp fun ds _ q1 F1 H1 J g S => ?_⟩
  have S : Src tup X.K (LtF F1) J ds := S
  refine ⟨fun i m σ H => m = ds.length - i ∧ i ≤ ds.length ∧ ∃ ρ F2, Rel X.K F0 H0 Ol ρ σ F2 H ∧ Same F1 F2 ∧ FQ X.K X.mg W F0 H0 O1 Ob fr E F2 (forL tup is body (ds.drop i) ρ), ⟨_, rfl, Nat.zero_le _, ρ, F1, rel.grow g, Same.refl _, q1.later g.ff⟩, ?_⟩
  rintro i m σ2 H2 ⟨rfl, hi, ρ2, F2, rel2, s2, q2⟩
  have lt : LtF F1 F2 H2 := ⟨s2, rel2.sfh⟩
  by_cases hlt : i < ds.length
  · refine .inr ⟨S.go i F2 H2 lt hlt, fun σ' H' => i + 1 ≤ ds.length ∧ ∃ ρ F2, Rel X.K F0 H0 Ol ρ σ' F2 H' ∧ Same F1 F2 ∧ FQ X.K X.mg W F0 H0 O1 Ob fr E F2 (forL tup is body (ds.drop (i + 1)) ρ), fun σ' H' n => ⟨ds.length - (i + 1), by omega, rfl, n.1, n.2⟩, fun x H3 y => ?_⟩
    obtain ⟨F3, g3, n3⟩ := S.yld i ds[i] F2 H2 x H3 lt (List.getElem?_eq_getElem hlt) y
    rw [List.drop_eq_getElem_cons hlt] at q2
    have q2 : FQ X.K X.mg W F0 H0 O1 Ob fr E F2 (Fl.of (cTg tup is ds[i] ρ2) fun ρ1 => match body ρ1 with
      | .next ρ2 => forL tup is body (ds.drop (i + 1)) ρ2
      | .cnt ρ2 => forL tup is body (ds.drop (i + 1)) ρ2
      | .brk ρ2 => .next ρ2
      | r => r) := q2
    cases e : cTg tup is ds[i] ρ2 with
    | exc x => exact absurd e forL_exc
    | bad => rw [e] at q2; exact False.elim q2
    | ok ρ3 =>
      rw [e] at q2
      refine ⟨ρ2, F3, ds[i], ρ3, rel2.grow g3, n3, e, fun σ3 _ rel3 => ⟨ρ3, F3, rel3, ?_⟩⟩
      simp only [Fl.of_ok] at q2
      cases e4 : body ρ3 with
      | next ρ4 =>
        rw [e4] at q2
        exact fun σ' F' H' s rel' => ⟨by omega, ρ4, F', rel', (s2.trans g3.ff).trans s, FQ.later (F := F2) q2 (g3.ff.trans s)⟩
      | cnt ρ4 =>
        rw [e4] at q2
        exact fun σ' F' H' s rel' => ⟨by omega, ρ4, F', rel', (s2.trans g3.ff).trans s, FQ.later (F := F2) q2 (g3.ff.trans s)⟩
      | brk ρ4 =>
        rw [e4] at q2
        exact fun σ' F' H' s rel' => by
          obtain ⟨F5, s5, rel5⟩ := rel'.sub ho
          exact q2 σ' F5 H' ((g3.ff.trans s).trans s5) rel5
      | ret d => rw [e4] at q2; exact q2
      | exc x => rw [e4] at q2; exact q2
      | bad => rw [e4] at q2; exact q2
  · have e : i = ds.length := by omega
    subst e
    refine .inl ⟨S.stop F2 H2 lt, ?_⟩
    rw [List.drop_length] at q2
    obtain ⟨F5, s5, rel5⟩ := rel2.sub ho
    exact q2 σ2 F5 H2 s5 rel5
theorem while_rd {c : Env → Res Bool} {body : Cmd} {Ol : List Nat} {n : Nat} (ho : ∀ k ∈ O1, k ∈ Ol) (σ : St) (H : Hp) (E : Ends) (h : xS X W F0 H0 Ol O1 Ob fr (whileL c body n) E σ H) :
    tWhile (xT X W F0 H0 Ol c) (xS X W F0 H0 Ol Ol Ol fr body) E σ H := by
  obtain ⟨ρ, F, rel, q⟩ := h
  refine ⟨fun m σ H => ∃ ρ F, Rel X.K F0 H0 Ol ρ σ F H ∧ FQ X.K X.mg W F0 H0 O1 Ob fr E F (whileL c body m ρ), ⟨n, ρ, F, rel, q⟩, ?_⟩
  rintro m σ2 H2 ⟨ρ2, F2, rel2, q2⟩
  cases m with
  | zero => exact False.elim q2
  | succ m =>
    refine ⟨ρ2, F2, rel2, (FQ.of rel2.s0 q2).imp fun k _ q3 F3 H3 g3 => ?_⟩
    cases k with
    | false =>
      refine iteF ?_
      obtain ⟨F5, s5, rel5⟩ := (rel2.grow g3).sub ho
      exact q3 σ2 F5 H3 (g3.ff.trans s5) rel5
    | true =>
      refine iteT ⟨fun σ' H' => ∃ ρ F, Rel X.K F0 H0 Ol ρ σ' F H' ∧ FQ X.K X.mg W F0 H0 O1 Ob fr E F (whileL c body m ρ), fun σ' H' w => ⟨m, Nat.lt_succ_self m, w⟩, ρ2, F3, rel2.grow g3, ?_⟩
      have q4 : FQ X.K X.mg W F0 H0 O1 Ob fr E F2 (match body ρ2 with
        | .next ρ2 => whileL c body m ρ2
        | .cnt ρ2 => whileL c body m ρ2
        | .brk ρ2 => .next ρ2
        | r => r) := q3
      cases e4 : body ρ2 with
      | next ρ4 =>
        rw [e4] at q4
        exact fun σ' F' H' s rel' => ⟨ρ4, F', rel', FQ.later (F := F2) q4 (g3.ff.trans s)⟩
      | cnt ρ4 =>
        rw [e4] at q4
        exact fun σ' F' H' s rel' => ⟨ρ4, F', rel', FQ.later (F := F2) q4 (g3.ff.trans s)⟩
      | brk ρ4 =>
        rw [e4] at q4
        exact fun σ' F' H' s rel' => by
          obtain ⟨F5, s5, rel5⟩ := rel'.sub ho
          exact q4 σ' F5 H' ((g3.ff.trans s).trans s5) rel5
      | ret d => rw [e4] at q4; exact q4
      | exc x => rw [e4] at q4; exact q4
      | bad => rw [e4] at q4; exact q4
/-! ### what is changed in place -/
theorem FQ.mut {K : PySem.W.Frag} {mg : Str → Option Value} {E : Ends} {F : Hp} {ρ : Env} {i : Nat} {g : D → Option D} (h : FQ K mg W F0 H0 O1 Ob fr E F (cMut i g ρ)) :
    ∃ d d', ρ[i]? = some (some d) ∧ g d = some d' ∧ ∀ σ' F' H', Same F F' → Rel K F0 H0 O1 (ρ.set i (some d')) σ' F' H' → E.nx σ' H' := by
  unfold cMut at h
  split at h
  · rename_i d e
    split at h
    · rename_i d' e'
      exact ⟨d, d', e, e', h⟩
    · exact False.elim h
  · exact False.elim h
theorem DnK.put {K : PySem.W.Frag} {F : Hp} {k : Key} {v : V} {dk d : D} (hk : keyOf dk = some k) (n : Dn K F v d) : ∀ {es : List (D × D)} {ks : List (Key × V)}, DnK K F ks es → DnK K F (putK ks k v) (putK' es dk d) := by
  have any : ∀ {es : List (D × D)} {ks : List (Key × V)}, DnK K F ks es → (ks.any fun kv => decide (kv.1 = k)) = es.any fun e => decide (keyOf e.1 = keyOf dk) := by
    intro es
    induction es with
    | nil => intro ks h; cases h; rfl
    | cons e es ih =>
      intro ks h
      cases h with
      | @cons k' v' ks' d' _ h1 h2 =>
        rw [List.any_cons, List.any_cons, ih h2, hk, keyOf_kD]
        congr 1
        by_cases z : k' = k <;> simp [z]
  have mp : ∀ {es : List (D × D)} {ks : List (Key × V)}, DnK K F ks es → DnK K F (ks.map fun kv => if kv.1 = k then (kv.1, v) else kv) (es.map fun e => if keyOf e.1 = keyOf dk then (e.1, d) else e) := by
    intro es
    induction es with
    | nil => intro ks h; cases h; exact .nil
    | cons e es ih =>
      intro ks h
      cases h with
      | @cons k' v' ks' d' _ h1 h2 =>
        rw [List.map_cons, List.map_cons]
        by_cases z : k' = k
        · rw [if_pos z, if_pos (by rw [keyOf_kD, hk, z])]
          exact .cons n (ih h2)
        · rw [if_neg z, if_neg (by rw [keyOf_kD, hk]; intro w; exact z (Option.some.inj w))]
          exact .cons h1 (ih h2)
  have snoc : ∀ {es : List (D × D)} {ks : List (Key × V)}, DnK K F ks es → DnK K F (ks ++ [(k, v)]) (es ++ [(kD k, d)]) := by
    intro es
    induction es with
    | nil => intro ks h; cases h; exact .cons n .nil
    | cons e es ih =>
      intro ks h
      cases h with
      | cons h1 h2 => exact .cons h1 (ih h2)
  have ek : dk = kD k := by
    cases dk <;> simp [keyOf] at hk <;> subst hk <;> rfl
  intro es ks h
  unfold putK putK'
  rw [any h]
  split
  · exact mp h
  · have := snoc h
    rw [← ek] at this
    exact this
def rSetX : V → V → V → Hp → (Hp → Prop) → Prop := fun o i v H Q => rSetL o i v H Q ∨ rSetD o i v H Q
theorem set_X (hu : X.A.units + 1 < cLine) : PSet X rSetX := by
  intro pins s σ H o i v ov iv u Q I r1 r2 r3 h
  rcases h with h | h
  · exact set_list pins s σ H o i v ov iv u Q I r1 r2 r3 h
  · exact set_dict hu pins s σ H o i v ov iv u Q I r1 r2 r3 h
theorem FQ.slot {K : PySem.W.Frag} {mg : Str → Option Value} {E : Ends} {F : Hp} {ρ : Env} {i : Nat} {k : D → Fl} (h : FQ K mg W F0 H0 O1 Ob fr E F (Fl.of (cSlot i ρ) k)) : ∃ d, ρ[i]? = some (some d) ∧ FQ K mg W F0 H0 O1 Ob fr E F (k d) := by
  unfold cSlot at h
  split at h
  · rename_i d e
    exact ⟨d, e, h⟩
  · exact False.elim h
/-- the step itself -/
theorem set_step {i : Nat} {a v kv : V} {dk dv d d' : D} {ρ : Env} {σ : St} {F H : Hp} {Q : Hp → Prop} (hi : i ∈ O) (rel : Rel X.K F0 H0 O ρ σ F H) (hd : ρ[i]? = some (some d)) (hs : σ[i]? = some (some a)) (nk : Br X.K F H kv dk) (nv : Dn X.K F v dv) (e : setG dk dv d = some d')
    (q : ∀ H', Rel X.K F0 H0 O (ρ.set i (some d')) σ F H' → Q H') : rSetX a kv v H Q := by
  obtain ⟨u, e1, e2⟩ := rel.ow i d hi hd
  rw [hs] at e1; cases e1
  unfold setG at e
  split at e
  · split at e
    · obtain ⟨j, ej, rfl⟩ := Option.map_eq_some_iff.mp e
      cases nk.int
      obtain ⟨p, us, rfl, h1, h2, h3, h4⟩ := e2
      refine .inl ⟨p, us, _, j, rfl, rfl, h3, by rw [h4.length]; exact ej, q _ (rel.mut hi hd rfl hs rfl fun fa za => ?_)⟩
      exact ⟨p, _, rfl, za, fa, upd_same, h4.set j nv⟩
    · cases e
  · split at e
    · rename_i k0 ek
      split at e
      · rename_i hl
        cases e
        obtain ⟨p, us, rfl, h1, h2, h3, h4⟩ := e2
        have hx := kV_dn (nk.full rel.sfh) ek
        subst hx
        refine .inr ⟨p, _, rfl, DPut.k h3 (by rw [h4.length, line_eq]; exact hl), q _ (rel.mut hi hd rfl hs rfl fun fa za => ?_)⟩
        exact ⟨p, _, rfl, za, fa, upd_same, DnK.put ek nv h4⟩
      · cases e
    · cases e
  · cases e
theorem setI_rd {i : Nat} {k v : Env → Res D} (hi : i ∈ O) (σ : St) (H : Hp) (E : Ends) (h : xS X W F0 H0 O O Ob fr (cSetI i k v) E σ H) : tAsg (xE X W F0 H0 O v) (gSub (tVar i) (xR X W F0 H0 O k) rSetX) E σ H := by
  obtain ⟨ρ, F, rel, q⟩ := h
  refine ⟨ρ, F, rel, (FQ.of rel.s0 q).imp fun dv _ q1 u F1 H1 g1 n1 => ?_⟩
  obtain ⟨d, hd, q2⟩ := FQ.slot q1
  have rel1 := rel.grow g1
  obtain ⟨a, hs, _⟩ := rel1.br hd
  refine ⟨a, hs, ρ, F1, rel1, (FQ.of rel1.s0 (q2.later g1.ff)).imp fun dk _ q3 kv F2 H2 g2 nk => ?_⟩
  obtain ⟨d0, d', h1, h2, h3⟩ := FQ.mut q3
  rw [hd] at h1; cases h1
  have rel2 := rel1.grow g2
  exact set_step hi rel2 hd hs nk (n1.mono g2.ff) h2 fun H' r' => h3 σ F2 H' g2.ff r'
theorem app_rd {i : Nat} {v : Env → Res D} (hi : i ∈ O) (σ : St) (H : Hp) (E : Ends) (h : xS X W F0 H0 O O Ob fr (cAppend i v) E σ H) :
    tDrop (tBM X.K "list" rAppend (tVar i) (tCons (xE X W F0 H0 O v) tNil)) E σ H := by
  obtain ⟨ρ, F, rel, q⟩ := h
  obtain ⟨d, hd, q1⟩ := FQ.slot q
  obtain ⟨a, hs, hb⟩ := rel.br hd
  cases d with
  | list ds =>
    have q1 : FQ X.K X.mg W F0 H0 O Ob fr E F (cApp i v ρ) := q1
    obtain ⟨p, us, rfl, h1, _⟩ := hb.list rel.sfh
    refine ⟨_, hs, .inl ⟨rfl, us, h1⟩, ρ, F, rel, (FQ.of rel.s0 q1).imp fun dv _ q2 u F1 H1 g1 n1 => ?_⟩
    obtain ⟨d0, d', e1, e2, e3⟩ := FQ.mut q2
    rw [hd] at e1; cases e1
    have rel1 := rel.grow g1
    obtain ⟨w, f1, f2⟩ := rel1.ow i _ hi hd
    rw [hs] at f1; cases f1
    obtain ⟨p', us', ep, z1, z2, z3, z4⟩ := f2
    cases ep
    simp only [appG] at e2
    split at e2
    · rename_i hl
      cases e2
      refine ⟨p, us', u, rfl, rfl, z3, by rw [z4.length, line_eq]; exact hl, e3 σ F1 _ g1.ff (rel1.mut hi hd rfl hs rfl fun fa za => ?_)⟩
      exact ⟨p, _, rfl, za, fa, upd_same, z4.append (.one n1)⟩
    · cases e2
  | none => exact False.elim q1
  | bool _ => exact False.elim q1
  | int _ => exact False.elim q1
  | str _ => exact False.elim q1
  | tuple _ => exact False.elim q1
  | dict _ => exact False.elim q1
end
end Ev

set_option Elab.async false
set_option linter.all false
set_option maxRecDepth 100000
set_option maxHeartbeats 4000000
/-! The evaluator, part G2: extend, reverse. -/
namespace Ev
open PySem L2
def extG (v : D) : D → Option D
  | .list xs => match v with
    | .list zs => if xs.length + zs.length ≤ line then some (.list (xs ++ zs)) else none
    | _ => none
  | _ => none
def isLst (d : D) : Res D := match d with
  | .list _ => .ok d
  | _ => .bad
def cExtend (i : Nat) (v : Env → Res D) : Cmd := fun ρ => Fl.of (cSlot i ρ) fun d => Fl.of (isLst d) fun _ => Fl.of (v ρ) fun dv => cMut i (extG dv) ρ
def revG : D → Option D
  | .list xs => some (.list xs.reverse)
  | _ => none
def cRev (i : Nat) : Cmd := fun ρ => cMut i revG ρ
section
variable {X : Cx} {W : WX} {F0 H0 : Hp} {O O1 Ob : List Nat} {fr : Bool}
theorem ext_rd {i : Nat} {v : Env → Res D} (hi : i ∈ O) (σ : St) (H : Hp) (E : Ends) (h : xS X W F0 H0 O O Ob fr (cExtend i v) E σ H) :
    tDrop (tBM X.K "list" rExtend (tVar i) (tCons (xO X W F0 H0 O v) tNil)) E σ H := by
  obtain ⟨ρ, F, rel, q⟩ := h
  obtain ⟨d, hd, q1⟩ := FQ.slot q
  obtain ⟨a, hs, hb⟩ := rel.br hd
  cases d with
  | list ds =>
    have q1 : FQ X.K X.mg W F0 H0 O Ob fr E F (Fl.of (v ρ) fun dv => cMut i (extG dv) ρ) := q1
    obtain ⟨p, us, rfl, h1, _⟩ := hb.list rel.sfh
    refine ⟨_, hs, .inl ⟨rfl, us, h1⟩, ρ, F, rel, (FQ.of rel.s0 q1).imp fun dv _ q2 u F1 H1 g1 n1 => ?_⟩
    obtain ⟨d0, d', e1, e2, e3⟩ := FQ.mut q2
    rw [hd] at e1; cases e1
    have rel1 := rel.grow g1
    obtain ⟨w, f1, f2⟩ := rel1.ow i _ hi hd
    rw [hs] at f1; cases f1
    obtain ⟨p', us', ep, z1, z2, z3, z4⟩ := f2
    cases ep
    unfold extG at e2
    cases dv with
    | list zs =>
      dsimp only at e2
      split at e2
      · rename_i hl
        cases e2
        obtain ⟨b, vs, rfl, y1, y2, y3, y4⟩ := n1
        refine ⟨p, b, us', vs, rfl, rfl, z3, y3, by rw [z4.length, y4.length, line_eq]; exact hl, e3 σ F1 _ g1.ff (rel1.mut hi hd rfl hs rfl fun fa za => ?_)⟩
        exact ⟨p, _, rfl, za, fa, upd_same, z4.append y4⟩
      · cases e2
    | none => cases e2
    | bool _ => cases e2
    | int _ => cases e2
    | str _ => cases e2
    | tuple _ => cases e2
    | dict _ => cases e2
  | none => exact False.elim q1
  | bool _ => exact False.elim q1
  | int _ => exact False.elim q1
  | str _ => exact False.elim q1
  | tuple _ => exact False.elim q1
  | dict _ => exact False.elim q1
theorem rev_rd {i : Nat} (hi : i ∈ O) (σ : St) (H : Hp) (E : Ends) (h : xS X W F0 H0 O O Ob fr (cRev i) E σ H) : tDrop (tBM0 X.K "list" rReverse (tVar i)) E σ H := by
  obtain ⟨ρ, F, rel, q⟩ := h
  obtain ⟨d, d', hd, e2, e3⟩ := FQ.mut q
  obtain ⟨w, f1, f2⟩ := rel.ow i d hi hd
  unfold revG at e2
  cases d with
  | list ds =>
    cases e2
    obtain ⟨p, us, rfl, z1, z2, z3, z4⟩ := f2
    refine ⟨_, f1, .inl ⟨rfl, us, .inl (.inl z3)⟩, p, us, rfl, rfl, z3, e3 σ F _ (Same.refl _) (rel.mut hi hd rfl f1 rfl fun fa za => ?_)⟩
    exact ⟨p, _, rfl, za, fa, upd_same, z4.reverse⟩
  | none => cases e2
  | bool _ => cases e2
  | int _ => cases e2
  | str _ => cases e2
  | tuple _ => cases e2
  | dict _ => cases e2
end
end Ev

set_option Elab.async false
set_option linter.all false
set_option maxRecDepth 100000
set_option maxHeartbeats 4000000
/-! The evaluator, part G3: dict(pairs), dict(d). -/
namespace Ev
open PySem L2
def pairOf : D → Option (D × D)
  | .tuple [k, v] => (keyOf k).map fun _ => (k, v)
  | _ => none
def pairsOf : List D → Option (List (D × D))
  | [] => some []
  | p :: ps => (pairOf p).bind fun q => (pairsOf ps).map (q :: ·)
def putAll (es ps : List (D × D)) : List (D × D) := ps.foldl (fun es p => putK' es p.1 p.2) es
def dictG : List D → Option D
  | [.list ps] => if ps.length ≤ line then (pairsOf ps).map fun kvs => .dict (putAll [] kvs) else none
  | [.tuple ps] => if ps.length ≤ line then (pairsOf ps).map fun kvs => .dict (putAll [] kvs) else none
  | [.dict es] => some (.dict es)
  | _ => none
section
variable {X : Cx}
def rDictP (K : PySem.W.Frag) : List V → Hp → VK → Prop := fun xs H Q => ∃ (a : Addr) (ps : List Addr) (kvs : List (Key × V)), xs = [.ref a] ∧ SqL K H a (ps.map V.ref) ∧ Paired (fun p kv => SqT K H p [kV kv.1, kv.2]) ps kvs ∧
  ∀ p, H p = none → Q (.ref p) (upd H p (.dK (mergeK [] kvs)))
def rDictD : List V → Hp → VK → Prop := fun xs H Q => ∃ (a : Addr) (kvs : List (Key × V)), xs = [.ref a] ∧ Rd H a (.dK kvs) ∧ ∀ p, H p = none → Q (.ref p) (upd H p (.dK kvs))
theorem pick_pairs {P : Addr → Value → Key × Value → Prop} : ∀ {prs : List (Key × Value)} {ps : List Addr}, (∀ (j : Nat) (q : Key × Value), prs[j]? = some q → ∃ (b : Addr) (u : Value), ps[j]? = some b ∧ P b u q) →
    ∃ pv : List (Value × Value), pv.length = prs.length ∧ ∀ (j : Nat) (q : Key × Value), prs[j]? = some q → ∃ (b : Addr) (u : Value), ps[j]? = some b ∧ pv[j]? = some (u, q.2) ∧ P b u q
  | [], _, _ => ⟨[], rfl, fun j q e => by simp at e⟩
  | q0 :: prs, ps, h => by
    obtain ⟨b0, u0, e0, p0⟩ := h 0 q0 rfl
    obtain ⟨pv, hl, hp⟩ := pick_pairs (prs := prs) (ps := ps.tail) fun j q e => by
      obtain ⟨b, u, e1, p1⟩ := h (j + 1) q (by simpa using e)
      exact ⟨b, u, by rw [List.getElem?_tail]; exact e1, p1⟩
    refine ⟨(u0, q0.2) :: pv, by simp [hl], fun j q e => ?_⟩
    cases j with
    | zero =>
      have e' : q0 = q := Option.some.inj e
      subst e'
      exact ⟨b0, u0, e0, rfl, p0⟩
    | succ j =>
      obtain ⟨b, u, e1, e2, p1⟩ := hp j q (by simpa using e)
      exact ⟨b, u, by rw [List.getElem?_tail] at e1; exact e1, by simpa using e2, p1⟩
def rDictT (K : PySem.W.Frag) : List V → Hp → VK → Prop := fun xs H Q => ∃ (a : Addr) (ps : List Addr) (kvs : List (Key × V)), xs = [.ref a] ∧ SqN H a (ps.map V.ref) ∧ Paired (fun p kv => SqT K H p [kV kv.1, kv.2]) ps kvs ∧
  ∀ p, H p = none → Q (.ref p) (upd H p (.dK (mergeK [] kvs)))
/-- dict(xs) of a tuple of pairs -/
theorem call_dictT (hcalm : X.calm = true) : CallR X (.type "dict") (rDictT X.K) := by
  intro pins s σ H xs us Q I r q
  obtain ⟨a, ps, kvs, ex, hq, hp, q⟩ := q
  subst ex
  obtain ⟨u, eu, rx⟩ := vals1 r
  subst eu
  cases rx
  obtain ⟨ob, ha, hob⟩ := hq
  obtain ⟨ho, hz, its, rv, o', ho', hc, n, hdat⟩ := I.hok a _ ha
  have eo : o' = ob := by rw [ho] at ho'; cases ho'; rfl
  subst eo
  have ei := refs_at rv
  subst ei
  rw [List.length_map] at hz
  obtain ⟨prs, rel, hl, hpr⟩ := pairs_of I hp
  obtain ⟨pv, hlv, hpv⟩ := pick_pairs (P := fun b u q => PyProof.Rows.IsTup s.heap b #[u, q.2] ∧ keyIs q.1 u = true) hpr
  have at_ : ∀ (j : Nat) (k v : Value), pv[j]? = some (k, v) → ∃ (q : Key × Value) (b : Addr), prs[j]? = some q ∧ ps[j]? = some b ∧ v = q.2 ∧ PyProof.Rows.IsTup s.heap b #[k, v] ∧ keyIs q.1 k = true := fun j k v e => by
    have hj : j < prs.length := by
      obtain ⟨h, _⟩ := List.getElem?_eq_some_iff.mp e
      omega
    obtain ⟨b, u, e1, e2, e3, e4⟩ := hpv j prs[j] (List.getElem?_eq_getElem hj)
    rw [e] at e2
    cases e2
    exact ⟨prs[j], b, List.getElem?_eq_getElem hj, e1, rfl, e3, e4⟩
  refine PySem.call_dict_pairs (knd := mixKind X.prog X.w) (kvs := prs) (PairArg.tuple a (ps.map Value.ref).toArray (fun j => ps.getD j 0) pv) (I.ok.hd hcalm) ⟨⟨o', n, ho, hc, hob, hdat⟩, by simp [hl, hlv], fun j k v e => ?_⟩ ⟨hlv.symm, fun j k v e => ?_⟩ (by rw [hlv, hl]; exact hz) fun h' tk hd' k => ?_
  · obtain ⟨q, b, e1, e2, e3, e4, e5⟩ := at_ j k v e
    have ej : ps.getD j 0 = b := by rw [List.getD_eq_getElem?_getD, e2]; rfl
    show _ ∧ PairAt s.heap (ps.getD j 0) k v
    rw [ej]
    exact ⟨by show _ = some (Value.ref (ps.getD j 0)); rw [ej]; simp [e2], .inl e4⟩
  · obtain ⟨q, b, e1, e2, e3, e4, e5⟩ := at_ j k v e
    exact ⟨q.1, by rw [e1, e3], e5⟩
  · have hm : (s.heap.objs.size == sysModules) = false := beq_eq_false_iff_ne.mpr (Nat.ne_of_gt I.big)
    have hlen : (mergeK [] kvs).length ≤ sizeLine := by
      refine Nat.le_trans (length_mergeK kvs []) ?_
      rw [List.length_nil, Nat.zero_add, rel.length, hl]
      exact hz
    exact ⟨.ref s.heap.objs.size, upd H s.heap.objs.size (.dK (mergeK [] kvs)), I.laid (t' := tk) (fun b o e => k b o (by simp) e) (Nat.le_refl _) (show ObjOk X.prog X.w _ _ _ (.dK (mergeK [] kvs)) from ⟨hlen, hm, merged [] prs, KV.merge rel .nil, hd'⟩), rfl, q _ (I.hok.fresh (Nat.le_refl _))⟩
def rDictX (K : PySem.W.Frag) : List V → Hp → VK → Prop := fun xs H Q => rDictP K xs H Q ∨ rDictT K xs H Q ∨ rDictD xs H Q
theorem call_dictX (hc : X.calm = true) : CallR X (.type "dict") (rDictX X.K) := (call_dictP hc).or ((call_dictT hc).or call_dictD)
theorem pair_dn {K : PySem.W.Frag} {F : Hp} {v : V} {d : D} {q : D × D} (n : Dn K F v d) (e : pairOf d = some q) : ∃ (a : Addr) (k : Key) (u : V), v = .ref a ∧ SqT K F a [kV k, u] ∧ keyOf q.1 = some k ∧ Dn K F u q.2 := by
  unfold pairOf at e
  split at e
  · rename_i k v'
    obtain ⟨k0, hk, e⟩ := Option.map_eq_some_iff.mp e
    cases e
    cases n with
    | tup h1 h2 =>
      cases h2 with
      | cons n1 t =>
        cases t with
        | cons n2 t2 =>
          cases t2
          refine ⟨_, k0, _, rfl, ?_, hk, n2⟩
          cases k <;> first | (cases hk; done) | skip
          · cases hk; cases n1; exact h1.t
          · cases hk; cases n1; exact h1.t
  · cases e
theorem pairs_dn {K : PySem.W.Frag} {F H : Hp} (s : Same F H) : ∀ {ps : List D} {xs : List V} {qs : List (D × D)}, DnL K F xs ps → pairsOf ps = some qs →
    ∃ (as : List Addr) (kvs : List (Key × V)), xs = as.map V.ref ∧ Paired (fun p kv => SqT K H p [kV kv.1, kv.2]) as kvs ∧ ∀ (es : List (D × D)) (ks : List (Key × V)), DnK K F ks es → DnK K F (mergeK ks kvs) (putAll es qs)
  | [], _, qs, h, e => by
    cases h; cases e
    exact ⟨[], [], rfl, .nil, fun es ks h => h⟩
  | p :: ps, _, qs, h, e => by
    obtain ⟨q, e1, e⟩ := Option.bind_eq_some_iff.mp (show ((pairOf p).bind fun q => (pairsOf ps).map (q :: ·)) = some qs from e)
    obtain ⟨qs', e2, rfl⟩ := Option.map_eq_some_iff.mp e
    cases h with
    | cons n1 n2 =>
      obtain ⟨a, k, u, rfl, h1, h2, h3⟩ := pair_dn n1 e1
      obtain ⟨as, kvs, rfl, h4, h5⟩ := pairs_dn s n2 e2
      exact ⟨a :: as, (k, u) :: kvs, rfl, .cons (seqT_same s h1) h4, fun es ks h => h5 _ _ (DnK.put h2 h3 h)⟩
theorem dictG_ok : OpN X.K (rDictX X.K) dictG := by
  intro F H vs as c Q s bb e k
  unfold dictG at e
  split at e
  · split at e
    · obtain ⟨qs, e1, e⟩ := Option.map_eq_some_iff.mp e
      cases e
      obtain ⟨v, rfl, b⟩ := bb.one
      obtain ⟨p, xs, rfl, q, n⟩ := b.list s
      obtain ⟨as, kvs, rfl, h1, h2⟩ := pairs_dn s n e1
      exact .inl ⟨p, as, kvs, rfl, q, h1, fun r hr => k _ F _ (Gr.out s hr) ⟨r, _, rfl, hr, noneOf s hr, upd_same, h2 [] [] .nil⟩⟩
    · cases e
  · split at e
    · obtain ⟨qs, e1, e⟩ := Option.map_eq_some_iff.mp e
      cases e
      obtain ⟨v, rfl, b⟩ := bb.one
      obtain ⟨p, xs, rfl, q, n⟩ := b.tupN
      obtain ⟨as, kvs, rfl, h1, h2⟩ := pairs_dn s n e1
      exact .inr (.inl ⟨p, as, kvs, rfl, seqN_same s q, h1, fun r hr => k _ F _ (Gr.out s hr) ⟨r, _, rfl, hr, noneOf s hr, upd_same, h2 [] [] .nil⟩⟩)
    · cases e
  · cases e
    obtain ⟨v, rfl, b⟩ := bb.one
    obtain ⟨p, ks, rfl, q, n⟩ := b.dict s
    exact .inr (.inr ⟨p, ks, rfl, .inl q, fun r hr => k _ F _ (Gr.out s hr) ⟨r, _, rfl, hr, noneOf s hr, upd_same, n⟩⟩)
  · cases e
end
end Ev

set_option Elab.async false
set_option linter.all false
set_option maxRecDepth 100000
set_option maxHeartbeats 4000000
/-! The evaluator, part G4: d.get(k). -/
namespace Ev
open PySem L2
def asDc : D → Res D
  | .dict es => .ok (.dict es)
  | _ => .bad
theorem asDc_cases (d : D) : (∃ es, d = .dict es ∧ asDc d = .ok (.dict es)) ∨ asDc d = .bad := by
  cases d <;> first | exact .inr rfl | exact .inl ⟨_, rfl, rfl⟩
def dgetD (a b : D) : Option D := match a with
  | .dict es => (keyOf b).map fun k => (getK es k).getD .none
  | _ => none
def cGet (f h : Env → Res D) : Env → Res D := fun ρ => do
  let a ← f ρ
  let a ← asDc a
  let b ← h ρ
  ofO (dgetD a b)
section
variable {X : Cx} {W : WX} {F0 H0 : Hp} {O : List Nat}
theorem m1_of {o e : Expr} {m : Str} {apos cpos : Pos} (hb : notCall o = true) (hl : (apos.endLine == cpos.line) = true) (hs : starEach [e] X.env = [(false, eval e X.env)]) : M1 X o m apos e cpos := by
  have hs2 : backTo cpos (starEach [e] X.env) = [(false, eval e X.env)] := by rw [hs]; rfl
  refine ⟨attr_nc hb _ _ _, ?_, hl, hs2⟩
  rw [hs2]; rfl
theorem pe_dgetE {o e : Expr} {f h : Env → Res D} {apos pos : Pos} (hu : X.A.units + 1 < cLine) (ho : PE X o (xR X W F0 H0 O f)) (he : PE X e (xR X W F0 H0 O h)) (hb : notCall o = true) (hl : (apos.endLine == pos.line) = true) (hs : starEach [e] X.env = [(false, eval e X.env)]) :
    PE X (.Call (.Attribute o "get" apos) [e] [] pos) (xE X W F0 H0 O (cGet f h)) :=
  PE.of (pe_dget1 hu ho he (m1_of hb hl hs)) fun σ H Q ⟨ρ, F, rel, q⟩ => by
    refine ⟨ρ, F, rel, (RQ.seq q).imp fun d _ q1 v F1 H1 g1 b => ?_⟩
    rcases asDc_cases d with ⟨es, rfl, e1⟩ | e1
    · simp only [e1, Res.ok_bind] at q1
      obtain ⟨a, ks, rfl, ha, hk⟩ := b.dict g1.fh
      refine ⟨a, rfl, .inl ⟨ks, .inl ha⟩, ρ, F1, rel.grow g1, (RQ.seq q1).later g1.hh fun b2 q2 v2 F2 H2 g2 bb => ?_⟩
      cases e2 : dgetD (.dict es) b2 with
      | none => rw [e2] at q2; exact False.elim q2
      | some c =>
        rw [e2] at q2
        obtain ⟨k, e3, e4⟩ := Option.map_eq_some_iff.mp (show (keyOf b2).map (fun k => (getK es k).getD .none) = some c from e2)
        have hx := kV_dn (bb.full g2.fh) e3
        subst hx
        have ha2 := g2.hh _ _ ha
        refine ⟨valV ks k, DGet.k ha2, ?_⟩
        rcases getK_ok k (DnK.mono g2.ff _ _ hk) with ⟨v', d', p1, p2, p3⟩ | ⟨p1, p2⟩
        · rw [p1]
          rw [p2] at e4
          subst e4
          exact q2 _ F2 H2 (g1.trans g2) p3
        · rw [p1]
          rw [p2] at e4
          subst e4
          exact q2 _ F2 H2 (g1.trans g2) .non
    · simp only [e1, Res.bad_bind] at q1
      exact False.elim q1
end
end Ev

set_option Elab.async false
set_option linter.all false
set_option maxRecDepth 100000
set_option maxHeartbeats 4000000
/-! The evaluator, part G5: t.index(d), t a tuple. -/
namespace Ev
open PySem L2
def asTp : D → Res D
  | .tuple ds => .ok (.tuple ds)
  | _ => .bad
theorem asTp_cases (d : D) : (∃ ds, d = .tuple ds ∧ asTp d = .ok (.tuple ds)) ∨ asTp d = .bad := by
  cases d <;> first | exact .inr rfl | exact .inl ⟨_, rfl, rfl⟩
def idxD (a b : D) : Option D := match a with
  | .tuple ds => if SeqAt.shaped b = true ∧ SeqAt.shaped (.tuple ds) = true then (ds.findIdx? fun z => PyData.eqv z b).map fun j => .int (j : Nat) else none
  | _ => none
def cIdx (f h : Env → Res D) : Env → Res D := fun ρ => do
  let a ← f ρ
  let a ← asTp a
  let b ← h ρ
  ofO (idxD a b)
def tTIdx (K : PySem.W.Frag) (td ty : TE) : TE := fun σ H Q => td σ H fun x H1 => ∃ a xs, x = .ref a ∧ SqN H1 a xs ∧ ty σ H1 fun y H2 => ∃ d ds j, Dp K H2 y d ∧ Dp K H2 (.ref a) (.tuple ds) ∧ SeqAt.shaped d = true ∧ SeqAt.shaped (.tuple ds) = true ∧ (ds.findIdx? fun z => PyData.eqv z d) = some j ∧ Q (.int (j : Nat)) H2
section
variable {X : Cx} {W : WX} {F0 H0 : Hp} {O : List Nat}
theorem pe_tidx {o e : Expr} {apos cpos : Pos} {td ty : TE} (hu : X.A.units + 65 < cLine) (ho : PE X o td) (he : PE X e ty) (m : M1 X o "index" apos e cpos) : PE X (.Call (.Attribute o "index" apos) [e] [] cpos) (tTIdx X.K td ty) := by
  refine ⟨fun pins s σ H Q I h => ?_⟩
  refine wpAny_Call_method m.base m.few m.line PySem.F.plainAttrs_tuple PySem.F.slot_tuple_index PySem.F.type_tuple_index (thn (ho.run pins s σ H _ I h) fun u s1 ⟨x, H1, I1, rx, a, xs, ex, d, q1⟩ => ?_)
  subst ex
  obtain rfl : u = Value.ref a := rx
  obtain ⟨ob, ha, hob⟩ := d
  obtain ⟨hg, hz, its, rv, o', ho', hc, n, hdat⟩ := I1.hok a _ ha
  have eo : o' = ob := by rw [hg] at ho'; cases ho'; rfl
  subst eo
  refine ⟨⟨o', hg, hc⟩, fun b q => by cases q; exact ⟨o', hg, hob⟩, ?_⟩
  rw [m.trees]
  refine Calls.callWith_builtin rfl (Calls.evalArgs_plain (Calls.spliced_cons (thn (he.run pins s1 σ H1 _ I1 q1) fun iv s2 ⟨y, H2, I2, ry, d, ds, j, hd, hds, sd, sds, hj, q2⟩ => Calls.spliced_nil ?_)))
  obtain ⟨as, r1⟩ := Dp.reads I2 d y iv hd ry
  obtain ⟨bs, r2⟩ := Dp.reads I2 (.tuple ds) (.ref a) (.ref a) hds rfl
  cases r2 with
  | @tuple _ o2 vs n2 _ _ k1 k2 k3 k4 =>
    obtain ⟨cls, dd, data, sl⟩ := o2
    simp only at k2 k3
    subst k2 k3
    have hxs : PyData.canLayAll0 ds = true := by
      have := SeqAt.canLay_of_shaped sds
      simpa [PyData.canLay0] using this
    have em : vs.toList.map (SeqAt.readOf s2.heap) = ds := SeqAt.readsAll_map ds _ _ hxs k4
    have len : vs.size = ds.length := by rw [← em, List.length_map, Array.length_toList]
    obtain ⟨j1, j2, j3⟩ := List.findIdx?_eq_some_iff_getElem.mp hj
    have at_ : ∀ m (hm : m < vs.size), ds[m]? = some (SeqAt.readOf s2.heap vs[m]) := fun m hm => by
      rw [← em, List.getElem?_map]
      have : vs.toList[m]? = some vs[m] := by rw [Array.getElem?_toList]; exact Array.getElem?_eq_getElem hm
      rw [this]; rfl
    refine call_meets PySem.F.slot_tuple_index ⟨_, k1, rfl⟩ PySem.F.entry_tuple_index (PySem.F.args_tuple_index_2 _ _)
      (SeqAt.tuple_index2_found a vs n2 dd sl iv (fun m => ((ds[m]?).map fun z => PyData.eqv z d).getD false) j (by omega) (Nat.zero_le _) (by omega) ?_ ?_) ⟨k1, fun m hm => ?_, ?_⟩
    · simp only [List.getElem?_eq_getElem j1, Option.map_some, Option.getD_some]
      exact j2
    · intro m hm _ hlt
      have hm' : m < ds.length := by omega
      simp only [List.getElem?_eq_getElem hm', Option.map_some, Option.getD_some]
      have := j3 m hlt
      simpa using this
    · have e := SeqAt.items_eqAt k4 r1 hxs (SeqAt.canLay_of_shaped sd) (PyProof.Rows.room_in_shaped sd hu) vs[m] (Array.getElem_mem hm)
      simp only [at_ m hm, Option.map_some, Option.getD_some]
      exact e
    · exact ⟨.int (j : Nat), H2, I2.tok _, ⟨_, rfl⟩, q2⟩
theorem pe_tidxE {o e : Expr} {f h : Env → Res D} {apos pos : Pos} (hu : X.A.units + 65 < cLine) (ho : PE X o (xR X W F0 H0 O f)) (he : PE X e (xR X W F0 H0 O h)) (hb : notCall o = true) (hl : (apos.endLine == pos.line) = true) (hs : starEach [e] X.env = [(false, eval e X.env)]) :
    PE X (.Call (.Attribute o "index" apos) [e] [] pos) (xE X W F0 H0 O (cIdx f h)) :=
  PE.of (pe_tidx hu ho he (m1_of hb hl hs)) fun σ H Q ⟨ρ, F, rel, q⟩ => by
    refine ⟨ρ, F, rel, (RQ.seq q).imp fun d _ q1 v F1 H1 g1 b => ?_⟩
    rcases asTp_cases d with ⟨ds, rfl, e1⟩ | e1
    · simp only [e1, Res.ok_bind] at q1
      obtain ⟨a, xs, rfl, ha, hk⟩ := b.tupN
      refine ⟨a, xs, rfl, seqN_same g1.fh ha, ρ, F1, rel.grow g1, (RQ.seq q1).later g1.hh fun b2 q2 v2 F2 H2 g2 bb => ?_⟩
      cases e2 : idxD (.tuple ds) b2 with
      | none => rw [e2] at q2; exact False.elim q2
      | some c =>
        rw [e2] at q2
        have e2' : (if SeqAt.shaped b2 = true ∧ SeqAt.shaped (.tuple ds) = true then (ds.findIdx? fun z => PyData.eqv z b2).map fun j => PyData.int (j : Nat) else none) = some c := e2
        split at e2'
        · rename_i hc
          obtain ⟨j, e3, rfl⟩ := Option.map_eq_some_iff.mp e2'
          have dt : Dn X.K H2 (.ref a) (.tuple ds) := (Dn.tup ha hk).mono (g2.ff.trans g2.fh)
          exact ⟨b2, ds, j, (bb.full g2.fh).dp _ _ (SeqAt.canLay_of_shaped hc.1), dt.dp _ _ (SeqAt.canLay_of_shaped hc.2), hc.1, hc.2, e3, q2 _ F2 H2 (g1.trans g2) (.int _)⟩
        · cases e2'
    · simp only [e1, Res.bad_bind] at q1
      exact False.elim q1
end
end Ev

set_option Elab.async false
set_option linter.all false
set_option maxRecDepth 100000
set_option maxHeartbeats 4000000
/-! The evaluator, part H: the compiler of expressions, and that it is right. -/
namespace Ev
open PySem L2

/-- what is known of the module's names: defs by number, constants, built-ins that stand as they were -/
structure GT where
  fns : List (Str × Nat)
  consts : List (Str × D)
  bis : List Str
  frs : List Str
def okName (x : Str) : Bool := !(x == ("__debug__" : Str)) && !(x == ("__classdict__" : Str)) && !(x == ("__name__" : Str))
def isVis (sc : Scope) (x : Str) : Bool := match sc.names.lookup x with
  | some .local => true
  | some .cell => true
  | some .free => true
  | _ => false
def isGl (sc : Scope) (x : Str) : Bool := match sc.names.lookup x with
  | some .globalImplicit => true
  | _ => false
def ixOf (N : List Str) (x : Str) : Option Nat := N.findIdx? (· == x)
def negD : D → Option D
  | .int i => some (.int (-i))
  | _ => none
def opOf : Operator → Option (D → D → Option D)
  | .Add => some addD
  | .Sub => some subD
  | .Mult => some mulD
  | .Mod => some modD
  | .FloorDiv => some fdivD
  | .Pow => some powD
  | .RShift => some shrD
  | .LShift => some shlD
  | .BitAnd => some andD
  | _ => none
def cmpOf : CmpOp → Option (D → D → Option D)
  | .Eq => some eqD
  | .NotEq => some neD
  | .Lt => some ltD
  | .LtE => some leD
  | .Gt => some gtD
  | .GtE => some geD
  | .In => some inD
  | .NotIn => some notInD
  | .Is => some isD
  | .IsNot => some isNotD
def notSet : Expr → Bool
  | .Set _ _ _ => false
  | _ => true
def notIf : Expr → Bool
  | .IfExp _ _ _ _ => false
  | _ => true
def notStar : Expr → Bool
  | .Starred _ _ => false
  | _ => true
def notSl : Expr → Bool
  | .Slice _ _ _ _ => false
  | _ => true
/-- the built-ins that are called by name with values -/
def biOf (x : Str) : Option (List D → Option D) :=
  if x = "len" then some lenG else if x = "all" then some allG else if x = "any" then some anyG else if x = "sum" then some sumG else if x = "abs" then some absG
  else if x = "max" then some max2G else if x = "min" then some min2G else if x = "sorted" then some sortG else none
def meth0 (m : Str) : Option (D → Option D) := if m = "upper" then some upperD else none
def meth1 (m : Str) : Option (D → D → Option D) := if m = "join" then some joinD else if m = "split" then some splitD else if m = "partition" then some partD else if m = "find" then some findD else none
def tyOf (x : Str) : Option (List D → Option D) :=
  if x = "int" then some intG else if x = "str" then some strG else if x = "tuple" then some tupG else if x = "list" then some lstG else if x = "dict" then some dictG else none
def tyName (x : Str) : Option String :=
  if x = "str" then some "str" else if x = "int" then some "int" else if x = "bool" then some "bool" else if x = "tuple" then some "tuple" else if x = "list" then some "list" else if x = "dict" then some "dict" else none
def cCall (fn : Nat → List D → Res D) (i : Nat) (fs : List (Env → Res D)) : Env → Res D := fun ρ => do
  let as ← cs fs ρ
  fn i as
mutual
/-- no list and no dict within -/
def pureD : D → Bool
  | .list _ => false
  | .dict _ => false
  | .tuple xs => pureL xs
  | _ => true
def pureL : List D → Bool
  | [] => true
  | d :: r => pureD d && pureL r
end
/-- what a def may tell that was handed what the caller still changes -/
def pureR (fr : Bool) : D → Bool
  | .list ds => fr && pureL ds
  | d => pureD d
def cCallB (fn : Nat → List D → Res D) (fr : Bool) (i : Nat) (fs : List (Env → Res D)) : Env → Res D := fun ρ => do
  let as ← cs fs ρ
  let d ← fn i as
  if pureR fr d = true then .ok d else .bad
/-- what the names of a target are, by place -/
def namesIx (N : List Str) : List Expr → Option (List (Str × Nat))
  | [] => some []
  | .Name x _ :: r => do
    let i ← ixOf N x
    let l ← namesIx N r
    if okName x then some ((x, i) :: l) else none
  | _ => none
def tgIx (N : List Str) : Expr → Option (Bool × List (Str × Nat))
  | .Name x _ => do
    let i ← ixOf N x
    if okName x then some (false, [(x, i)]) else none
  | .Tuple es _ _ => do
    let l ← namesIx N es
    some (true, l)
  | _ => none
def isLoc (sc : Scope) (x : Str) : Bool := match sc.names.lookup x with
  | some .local => true
  | some .cell => true
  | _ => false
def isTup : Expr → Bool
  | .Tuple _ _ _ => true
  | _ => false
/-- what is walked; ce: how a value is compiled (kept or not); c: by a comprehension; tp: into a tuple's names -/
def compI (G : GT) (ce : Bool → Expr → Option (Env → Res D)) (sc : Scope) (c tp : Bool) (e : Expr) : Option (Env → Res (List D)) := match e with
  | .Call (.Name x _) args [] _ =>
    if (isGl sc x && G.bis.contains x && args.all notStar && okName x && (x == "range" || x == "enumerate" || x == "zip")) = true then
      (match x == "range", x == "enumerate", args with
      | true, _, [a] => (ce true a).map fun f => cSrc rng1 [f]
      | true, _, [a, b] => (do
        let f ← ce true a
        let h ← ce true b
        some (cSrc rng2 [f, h]))
      | false, true, [a] => if tp = true then (ce true a).map fun f => cSrc enumG [f] else none
      | false, false, [a, b] => if tp = true then (do
        let f ← ce true a
        let h ← ce true b
        some (cSrc zipG [f, h])) else none
      | _, _, _ => none)
    else (ce (!c) e).map cSeq
  | e => (ce (!c) e).map cSeq
/-- a built-in, told by its name -/
def bisAt (G : GT) (sc : Scope) : Expr → Bool
  | .Name y _ => isGl sc y && okName y && G.bis.contains y
  | _ => false
section
variable (fn : Nat → List D → Res D) (G : GT) (N : List Str)
/-- the expressions; esc: is the value kept -/
def compE : Nat → Scope → List Nat → Bool → Expr → Option (Env → Res D)
  | 0, _, _, _, _ => none
  | n + 1, sc, O, esc, e => match e with
    | .Name x _ =>
      if okName x = true then
        if isVis sc x = true then (do
          let i ← ixOf N x
          if (esc && O.contains i) = true then none else some (cSlot i))
        else if isGl sc x = true then (G.consts.lookup x).map cLit else none
      else none
    | .Constant c _ _ => match c with
      | .none => some (cLit .none)
      | .bool b => some (cLit (.bool b))
      | .int i => some (cLit (.int i))
      | .str s => some (cLit (.str s))
      | _ => none
    | .UnaryOp .Not a _ => if notIf a = true then (compE n sc O true a).map cNot else none
    | .UnaryOp .USub a _ => (compE n sc O false a).map (c1 negD)
    | .BinOp a op b _ => do
      let g ← opOf op
      let f ← compE n sc O false a
      let h ← compE n sc O false b
      some (c2 g f h)
    | .BoolOp op vs pos => match vs with
      | [a] => if notIf a = true then compE n sc O true a else none
      | a :: b :: r => if notIf a = true then (do
        let f ← compE n sc O true a
        let h ← compE n sc O true (.BoolOp op (b :: r) pos)
        match op with
        | .And => some (cAnd f h)
        | .Or => some (cOr f h)) else none
      | [] => none
    | .Compare a ops bs _ => match ops, bs with
      | [op], [b] => if notSet b = true then (do
        let g ← cmpOf op
        let f ← compE n sc O false a
        let h ← compE n sc O false b
        some (c2 g f h)) else none
      | [op, op'], [b, c] => if (notSet b && notSet c) = true then (do
        let g ← cmpOf op
        let g' ← cmpOf op'
        let f ← compE n sc O false a
        let h ← compE n sc O false b
        let k ← compE n sc O false c
        some (cChain g g' f h k)) else none
      | _, _ => none
    | .IfExp c a b _ => if notIf c = true then (do
      let k ← compE n sc O true c
      let f ← compE n sc O true a
      let h ← compE n sc O true b
      some (cIf k f h)) else none
    | .Tuple es _ _ => if es.all notStar = true then (es.mapM (compE n sc O true)).map cTup else none
    | .List es _ => if es.all notStar = true then (es.mapM (compE n sc O true)).map cLst else none
    | .Dict [] [] _ => some (cLit (.dict []))
    | .Call (.Attribute o m apos) [] [] pos => if (notCall o && apos.endLine == pos.line) = true then (do
      let g ← meth0 m
      let f ← compE n sc O false o
      some (c1 g f)) else none
    | .Call (.Attribute o m apos) [e] [] pos => if (notCall o && notStar e && apos.endLine == pos.line) = true then (do
      let f ← compE n sc O false o
      let h ← compE n sc O false e
      if m = "get" then some (cGet f h) else if m = "index" then some (cIdx f h) else (meth1 m).map fun g => cM1 g f h) else none
    | .Subscript a s _ => match s with
      | .Slice none none (some (.UnaryOp .USub (.Constant (.int 1) _ _) _)) _ => (compE n sc O false a).map (c1 revD)
      | .Slice l h none _ => do
        let f ← compE n sc O false a
        let l' ← (match l with
          | none => some none
          | some e => (compE n sc O false e).map some)
        let h' ← (match h with
          | none => some none
          | some e => (compE n sc O false e).map some)
        some (cSl f l' h')
      | .Slice _ _ _ _ => none
      | b => do
        let f ← compE n sc O false a
        let h ← compE n sc O false b
        some (c2 ixD f h)
    | .Call (.Name x _) args [] _ => if (isGl sc x && okName x && args.all notStar) = true then
        match G.fns.lookup x with
        | some i => match args with
          | [] => some (cCall fn i [])
          | a :: r => match (a :: r).mapM (compE n sc O true) with
            | some fs => some (cCall fn i fs)
            | none => ((a :: r).mapM (compE n sc [] true)).map (cCallB fn (G.frs.contains x) i)
        | none => if G.bis.contains x = true then
            (match x == "isinstance", args with
            | true, [a, .Name t _] => (do
              let T ← tyName t
              let f ← compE n sc O false a
              if (isGl sc t && okName t && G.bis.contains t) = true then some (cIsi f T) else none)
            | _, [] => none
            | _, a :: r => match tvOf x (a :: r) with
              | some o => (compE n sc O false o).map (c1 tvalsD)
              | none => match stOf (bisAt G sc) x (a :: r) with
                | some (e, g) => if notStar e = true then (compE n sc O false e).map (c1 g) else none
                | none => (do
                  let fs ← (a :: r).mapM (compE n sc O false)
                  match biOf x with
                  | some g => some (cN g fs)
                  | none => match tyOf x with
                    | some g => some (cN g fs)
                    | none => none)) else none
      else none
    | .ListComp elt [⟨tg, iter, ifs, asy⟩] scope _ => if asy = 0 then (do
      let (tup, own) ← tgIx N tg
      let src ← compI G (fun esc e => compE n sc O esc e) sc true (isTup tg) iter
      let cond ← (match ifs with
        | [] => some cYes
        | [c] => if notIf c = true then (compE n (relS scope sc) O true c).map cB else none
        | _ => none)
      let f ← compE n (relS scope sc) O true elt
      if (blkC N sc scope own && own.all (fun p => isLoc scope p.1 && !O.contains p.2) && notSet iter) = true then some (cComp (own.map (·.2)) tup (own.map (·.2)) src cond f) else none) else none
    | _ => none
end
end Ev

set_option Elab.async false
set_option linter.all false
set_option maxRecDepth 100000
set_option maxHeartbeats 4000000
/-! The evaluator, part I: the compiled expressions are right. -/
namespace Ev
open PySem L2

/-- a def's promise by the evaluator -/
def spEv (K : PySem.W.Frag) (mg : Str → Option Value) (m : Nat) (fr : Bool) (F : List D → Res D) : Sp := fun vs H Q E => vs.length = m ∧ ∃ as F0, Same F0 H ∧ DnL K F0 vs as ∧ match F as with
  | .ok d => ∀ v F' H', Gr F0 H F' H' → (if fr = true then Owv K H F' H' v d else Dn K F' v d) → Q v H'
  | .exc x => ∀ cls d H', Same H H' → ExIs K mg H' x cls d → E cls d H'
  | .bad => False
structure XOk (X : Cx) (G : GT) (N : List Str) (sc : Scope) (k : Nat) (fn : Nat → List D → Res D) : Prop where
  n : X.N = N
  nd : N.Nodup
  sc : X.env.scope = sc
  calm : X.calm = true
  room : Room k X.A
  consts : ∀ x d, G.consts.lookup x = some d → ∃ u v, X.mg x = some u ∧ scV d = some v ∧ RelV v u
  bis : ∀ x, G.bis.contains x = true → X.mg x = none
  fns : ∀ x i, G.fns.lookup x = some i → ∃ f fd ps, X.mg x = some (.ref f) ∧ PySem.W.keepIn X.K (.ref f) = true ∧ Binds X.K fd ps [] ∧ FnOk X.prog X.w X.K X.mg X.base (L2.CX X.prog X.w) k f fd ps (spEv X.K X.mg ps.length (G.frs.contains x) (fn i)) ∧ ∀ as : List D, as.length ≠ ps.length → fn i as = .bad
theorem XOk.hu {X : Cx} {G : GT} {N : List Str} {sc : Scope} {k : Nat} {fn : Nat → List D → Res D} (o : XOk X G N sc k fn) : X.A.units + 65 < cLine := by
  have := o.room.un
  omega
/-! ### the syntax's own conditions -/
theorem starEach_ns {e : Expr} (h : notStar e = true) (es : List Expr) (env : PySem.Env) : starEach (e :: es) env = (false, eval e env) :: starEach es env := by
  cases e <;> first | rfl | cases h
theorem starEach_any : ∀ {es : List Expr} (h : es.all notStar = true) (env : PySem.Env) (pos : Pos), (backTo pos (starEach es env)).any (·.1) = false
  | [], _, _, _ => rfl
  | e :: es, h, env, pos => by
    rw [List.all_cons, Bool.and_eq_true] at h
    have ih := starEach_any h.2 env pos
    rw [starEach_ns h.1]
    show (false || (backTo pos (starEach es env)).any (·.1)) = false
    rw [ih]; rfl
theorem mark_ns {op : CmpOp} {b : Expr} (h : notSet b = true) : behindInMarks op b = false := by
  cases b <;> first | rfl | cases h
theorem lastMark_ns {op op' : CmpOp} {b c : Expr} (h : notSet c = true) : lastMarks [op, op'] [b, c] = false := by
  show behindInMarks op' c = false
  exact mark_ns h
theorem plainIx_ns {b : Expr} (h : notSl b = true) : PlainIx b := by
  intro o i
  cases b <;> first | rfl | cases h
theorem folded_ns {b : Expr} (h : notSet b = true) (env : PySem.Env) (x : Value) : foldedSetIterable b env x = pure x := by
  cases b <;> first | rfl | cases h
def plainT : Expr → Bool
  | .UnaryOp .Not _ _ => false
  | .BoolOp _ _ _ => false
  | .IfExp _ _ _ _ => false
  | .Compare _ _ _ _ => false
  | _ => true
theorem plain_test {e : Expr} (h : plainT e = true) (env : PySem.Env) (whole : Sem Value) : isTrue e env whole = (do let v ← whole; standAt e.pos; holding [v] (truthy v)) := by
  cases e <;> first | rfl | (first | cases h | (rename_i op _ _; cases op <;> first | rfl | cases h))
def freshE (G : GT) : Expr → Bool
  | .BinOp _ _ _ _ => true
  | .List _ _ => true
  | .ListComp _ _ _ _ => true
  | .Subscript _ (.Slice _ _ _ _) _ => true
  | .Dict _ _ _ => true
  | .Call (.Attribute _ m _) _ _ _ => !(m == "get") && !(m == "index")
  | .Call (.Name x _) _ _ _ => if (G.fns.lookup x).isSome = true then G.frs.contains x else !(x == "isinstance")
  | _ => false
def isBO : Expr → Bool
  | .BoolOp _ _ _ => true
  | _ => false
theorem bo_plain {e : Expr} (h : plainT e = true) : isBO e = true → False := by
  intro z; cases e <;> first | (cases z; done) | (cases h; done)
/-- what is shown of a compiled expression -/
structure Snd (G : GT) (X : Cx) (W : WX) (F0 H0 : Hp) (O : List Nat) (esc : Bool) (e : Expr) (f : Env → Res D) : Prop where
  kept : esc = true → PE X e (xE X W F0 H0 O f)
  read : PE X e (xR X W F0 H0 O f)
  test : notIf e = true → esc = true → PT X e (xT X W F0 H0 O (cB f))
  own : freshE G e = true → PE X e (xO X W F0 H0 O f)
  pw : isBO e = true → esc = true → PW X e (xT X W F0 H0 O (cB f))
section
variable {G : GT} {X : Cx} {W : WX} {F0 H0 : Hp} {O : List Nat} {esc : Bool} {e : Expr} {f : Env → Res D}
theorem Snd.of_e (hf : freshE G e = false) (hp : plainT e = true) (h : PE X e (xE X W F0 H0 O f)) : Snd G X W F0 H0 O esc e f :=
  ⟨fun _ => h, PE.r_of_e h, fun _ _ => PT.of (pt_val h (plain_test hp _)) tB_of, fun z => (by rw [hf] at z; cases z), fun z => (bo_plain hp z).elim⟩
theorem Snd.of_o (hp : plainT e = true) (h : PE X e (xO X W F0 H0 O f)) : Snd G X W F0 H0 O esc e f :=
  ⟨fun _ => PE.e_of_o h, PE.r_of_e (PE.e_of_o h), fun _ _ => PT.of (pt_val (PE.e_of_o h) (plain_test hp _)) tB_of, fun _ => h, fun z => (bo_plain hp z).elim⟩
theorem Snd.of_et (hb : isBO e = false) (hf : freshE G e = false) (h : PE X e (xE X W F0 H0 O f)) (t : notIf e = true → PT X e (xT X W F0 H0 O (cB f))) : Snd G X W F0 H0 O esc e f :=
  ⟨fun _ => h, PE.r_of_e h, fun z _ => t z, fun z => (by rw [hf] at z; cases z), fun z => by rw [hb] at z; cases z⟩
theorem Snd.of_w (hf : freshE G e = false) (h : PE X e (xE X W F0 H0 O f)) (t : PW X e (xT X W F0 H0 O (cB f))) (t2 : PT X e (xT X W F0 H0 O (cB f))) : Snd G X W F0 H0 O esc e f :=
  ⟨fun _ => h, PE.r_of_e h, fun z _ => t2, fun z => (by rw [hf] at z; cases z), fun _ _ => t⟩
/-- lists of expressions -/
theorem mapM_cons {α β : Type} {f : α → Option β} {a : α} {r : List α} {l : List β} (h : (a :: r).mapM f = some l) : ∃ b bs, f a = some b ∧ r.mapM f = some bs ∧ l = b :: bs := by
  rw [List.mapM_cons] at h
  cases e1 : f a with
  | none => rw [e1] at h; cases h
  | some b =>
    rw [e1] at h
    cases e2 : r.mapM f with
    | none => rw [e2] at h; cases h
    | some bs =>
      rw [e2] at h
      cases h
      exact ⟨b, bs, rfl, rfl, rfl⟩
theorem args_e {c : Expr → Option (Env → Res D)} (ih : ∀ e f, c e = some f → Snd G X W F0 H0 O true e f) : ∀ {es : List Expr} {fs : List (Env → Res D)}, es.all notStar = true → es.mapM c = some fs → PA X es (xA X W F0 H0 O (cs fs))
  | [], fs, _, h => by
    rw [List.mapM_nil] at h; cases h
    exact pa_nilE
  | a :: r, fs, hn, h => by
    rw [List.all_cons, Bool.and_eq_true] at hn
    obtain ⟨b, bs, e1, e2, rfl⟩ := mapM_cons h
    exact pa_consE ((ih a b e1).kept rfl) (args_e ih hn.2 e2) (starEach_ns hn.1 _ _)
theorem args_r {c : Expr → Option (Env → Res D)} {esc : Bool} (ih : ∀ e f, c e = some f → Snd G X W F0 H0 O esc e f) : ∀ {es : List Expr} {fs : List (Env → Res D)}, es.all notStar = true → es.mapM c = some fs → PA X es (xAR X W F0 H0 O (cs fs))
  | [], fs, _, h => by
    rw [List.mapM_nil] at h; cases h
    exact pa_nilR
  | a :: r, fs, hn, h => by
    rw [List.all_cons, Bool.and_eq_true] at hn
    obtain ⟨b, bs, e1, e2, rfl⟩ := mapM_cons h
    exact pa_consR (ih a b e1).read (args_r ih hn.2 e2) (starEach_ns hn.1 _ _)
end
theorem okName_dbg {x : Str} (h : okName x = true) : (x == ("__debug__" : Str)) = false ∧ (x == ("__classdict__" : Str)) = false ∧ x ≠ "__name__" := by
  simp only [okName, Bool.and_eq_true, Bool.not_eq_true', beq_eq_false_iff_ne] at h
  exact ⟨beq_eq_false_iff_ne.mpr h.1.1, beq_eq_false_iff_ne.mpr h.1.2, h.2⟩
theorem ixOf_get {N : List Str} {x : Str} {i : Nat} (h : ixOf N x = some i) : N[i]? = some x := by
  unfold ixOf at h
  obtain ⟨h1, h2, _⟩ := List.findIdx?_eq_some_iff_getElem.mp h
  have : N[i] = x := by simpa using h2
  rw [List.getElem?_eq_getElem h1, this]
theorem isVis_vis {sc : Scope} {x : Str} (h : isVis sc x = true) : Vis sc x := by
  unfold isVis at h
  split at h
  · exact .inl ‹_›
  · exact .inr (.inl ‹_›)
  · exact .inr (.inr ‹_›)
  · cases h
theorem isGl_gl {X : Cx} {sc : Scope} {x : Str} (hs : X.env.scope = sc) (h : isGl sc x = true) : Gl X x := by
  unfold isGl at h
  split at h
  · show X.env.scope.names.lookup x = some .globalImplicit
    rw [hs]; assumption
  · cases h
theorem negD_ok {X : Cx} {W : WX} {F0 H0 : Hp} {O : List Nat} {f : Env → Res D} (σ : St) (H : Hp) (Q : VK) (h : xE X W F0 H0 O (c1 negD f) σ H Q) : tUn (rU fun i => .int (-i)) (xR X W F0 H0 O f) σ H Q := by
  obtain ⟨ρ, F, rel, q⟩ := h
  refine ⟨ρ, F, rel, (RQ.seq q).imp fun d _ q1 v F1 H1 g b => ?_⟩
  cases d with
  | int i => cases b.int; exact ⟨i, rfl, q1 _ F1 H1 g (.int _)⟩
  | _ => exact False.elim q1
section
variable {G : GT} {N : List Str} {k : Nat} {fn : Nat → List D → Res D}
theorem call_rd {X : Cx} {W : WX} {F0 H0 : Hp} {O : List Nat} {i m : Nat} {fs : List (Env → Res D)} (hl : ∀ as : List D, as.length ≠ m → fn i as = .bad) (σ : St) (H : Hp) (Q : VK) (h : xE X W F0 H0 O (cCall fn i fs) σ H Q) : tCallS (spEv X.K X.mg m false (fn i)) (WE W) (xA X W F0 H0 O (cs fs)) σ H Q := by
  obtain ⟨ρ, F, rel, q⟩ := h
  refine ⟨ρ, F, rel, (RQ.seq q).imp fun as has q1 vs F1 H1 g n => ?_⟩
  have len : as.length = m := by
    by_cases z : as.length = m
    · exact z
    · rw [hl as z] at q1; exact False.elim q1
  refine ⟨by rw [n.length, len], as, F1, g.fh, n, ?_⟩
  cases e : fn i as with
  | ok d => rw [e] at q1; exact fun v F' H' g' n' => q1 v F' H' (g.trans g') n'
  | exc x => rw [e] at q1; exact fun cls d H' s z => q1 cls d H' (g.hh.trans s) z
  | bad => rw [e] at q1; exact q1
theorem call_rdO {X : Cx} {W : WX} {F0 H0 : Hp} {O : List Nat} {i m : Nat} {fs : List (Env → Res D)} (hl : ∀ as : List D, as.length ≠ m → fn i as = .bad) (σ : St) (H : Hp) (Q : VK) (h : xO X W F0 H0 O (cCall fn i fs) σ H Q) : tCallS (spEv X.K X.mg m true (fn i)) (WE W) (xA X W F0 H0 O (cs fs)) σ H Q := by
  obtain ⟨ρ, F, rel, q⟩ := h
  refine ⟨ρ, F, rel, (RQ.seq q).imp fun as has q1 vs F1 H1 g n => ?_⟩
  have len : as.length = m := by
    by_cases z : as.length = m
    · exact z
    · rw [hl as z] at q1; exact False.elim q1
  refine ⟨by rw [n.length, len], as, F1, g.fh, n, ?_⟩
  cases e : fn i as with
  | ok d => rw [e] at q1; exact fun v F' H' g' n' => q1 v F' H' (g.trans g') (Owv.z n' fun a z => g.hh.free z)
  | exc x => rw [e] at q1; exact fun cls d H' s z => q1 cls d H' (g.hh.trans s) z
  | bad => rw [e] at q1; exact q1
end
end Ev

set_option Elab.async false
set_option linter.all false
set_option maxRecDepth 100000
set_option maxHeartbeats 4000000
/-! The evaluator, part I2: own calls that are handed what the caller owns. -/
namespace Ev
open PySem L2
/-- a list or a dict -/
def LDo (o : HO) : Prop := (∃ xs, o = .lst xs) ∨ ∃ ks, o = .dK ks
section
variable {K : PySem.W.Frag} {F0 H0 F H F2 F3 : Hp} {O : List Nat} {ρ : Env} {σ : St}
/-- all that is owned, let go for a while -/
theorem Rel.thaw (r : Rel K F0 H0 O ρ σ F H) : ∃ F1, Rel K F0 H0 [] ρ σ F1 H ∧ Same F F1 ∧ ∀ a o, F1 a = some o → F a = some o ∨ LDo o := by
  classical
  let P : Addr → Prop := fun a => ∃ i d, i ∈ O ∧ ρ[i]? = some (some d) ∧ isC d = true ∧ σ[i]? = some (some (.ref a))
  let F1 : Hp := fun a => match F a with
    | some o => some o
    | none => if P a then H a else none
  have inF : ∀ a o, F a = some o → F1 a = some o := fun a o h => by
    show (match F a with
    | some o => some o
    | none => if P a then H a else none) = some o
    rw [h]
  have own : ∀ a, F a = none → P a → F1 a = H a := fun a h p => by
    show (match F a with
    | some o => some o
    | none => if P a then H a else none) = H a
    rw [h]
    exact if_pos p
  have out : ∀ a o, F1 a = some o → F a = some o ∨ (F a = none ∧ P a ∧ H a = some o) := fun a o h => by
    cases e : F a with
    | some o' => rw [inF a o' e] at h; exact .inl h
    | none =>
      have h' : (match F a with
        | some o => some o
        | none => if P a then H a else none) = some o := h
      rw [e] at h'
      have h'' : (if P a then H a else none) = some o := h'
      by_cases p : P a
      · rw [if_pos p] at h''; exact .inr ⟨rfl, p, h''⟩
      · rw [if_neg p] at h''; cases h''
  have ff : Same F F1 := fun a o h => inF a o h
  have ob : ∀ a, F a = none → P a → H0 a = none ∧ ∀ o, H a = some o → LDo o := fun a hf ⟨i, d, hi, hd, hc, hs⟩ => by
    obtain ⟨v, e1, e2⟩ := r.ow i d hi hd
    rw [hs] at e1
    cases e1
    cases d with
    | list ds =>
      obtain ⟨b, xs, q1, q2, q3, q4, q5⟩ := e2
      cases q1
      exact ⟨q2, fun o h => by rw [q4] at h; cases h; exact .inl ⟨_, rfl⟩⟩
    | dict es =>
      obtain ⟨b, xs, q1, q2, q3, q4, q5⟩ := e2
      cases q1
      exact ⟨q2, fun o h => by rw [q4] at h; cases h; exact .inr ⟨_, rfl⟩⟩
    | _ => cases hc
  refine ⟨F1, ⟨r.len, fun a o h => ?_, r.s0, r.sf0.trans ff, fun a o h => ?_, fun i d _ hd => ?_, fun i d h => (by cases h), fun i j d e a h => (by cases h)⟩, ff, fun a o h => ?_⟩
  · rcases out a o h with h | ⟨_, _, h⟩
    · exact r.sfh a o h
    · exact h
  · rcases out a o h with h | ⟨hf, p, _⟩
    · exact r.nw a o h
    · exact .inr (ob a hf p).1
  · by_cases hi : i ∈ O
    · obtain ⟨v, e1, e2⟩ := r.ow i d hi hd
      refine ⟨v, e1, ?_⟩
      cases d with
      | list ds =>
        obtain ⟨b, xs, q1, q2, q3, q4, q5⟩ := e2
        subst q1
        exact .lst (SqL.of ((own b q3 ⟨i, _, hi, hd, rfl, e1⟩).trans q4)) (q5.mono ff)
      | dict es =>
        obtain ⟨b, xs, q1, q2, q3, q4, q5⟩ := e2
        subst q1
        exact .dic ((own b q3 ⟨i, _, hi, hd, rfl, e1⟩).trans q4) (q5.mono ff)
      | none => exact Dn.mono ff _ _ e2
      | bool b => exact Dn.mono ff _ _ e2
      | int i => exact Dn.mono ff _ _ e2
      | str x => exact Dn.mono ff _ _ e2
      | tuple xs => exact Dn.mono ff _ _ e2
    · obtain ⟨v, e1, e2⟩ := r.fz i d hi hd
      exact ⟨v, e1, e2.mono ff⟩
  · rcases out a o h with h | ⟨hf, p, h⟩
    · exact .inl h
    · exact .inr ((ob a hf p).2 o h)
/-- what is pure stands where no lists and dicts stand -/
theorem seqN_cut (s : ∀ a o, F2 a = some o → ¬ LDo o → F3 a = some o) {a : Addr} {xs : List V} (h : SqN F2 a xs) : SqN F3 a xs := by
  obtain ⟨ob, h, e⟩ := h
  exact ⟨ob, s _ _ h (fun z => by rcases z with ⟨_, z⟩ | ⟨_, z⟩ <;> cases z), e⟩
mutual
theorem Dn.pcut (s : ∀ a o, F2 a = some o → ¬ LDo o → F3 a = some o) : ∀ (d : D) (v : V), pureD d = true → Dn K F2 v d → Dn K F3 v d
  | .none, _, _, h => by cases h; exact .non
  | .bool b, _, _, h => by cases h; exact .bl _
  | .int i, _, _, h => by cases h; exact .int _
  | .str x, _, _, h => by cases h; exact .str _
  | .list ds, _, p, _ => by cases p
  | .dict ds, _, p, _ => by cases p
  | .tuple ds, _, p, h => by
    cases h with
    | tup h1 h2 => exact .tup (seqN_cut s h1) (DnL.pcut s ds _ p h2)
theorem DnL.pcut (s : ∀ a o, F2 a = some o → ¬ LDo o → F3 a = some o) : ∀ (ds : List D) (vs : List V), pureL ds = true → DnL K F2 vs ds → DnL K F3 vs ds
  | [], _, _, h => by cases h; exact .nil
  | d :: ds, _, p, h => by
    have p' : (pureD d && pureL ds) = true := p
    rw [Bool.and_eq_true] at p'
    cases h with
    | cons h1 h2 => exact .cons (Dn.pcut s d _ p'.1 h1) (DnL.pcut s ds _ p'.2 h2)
end
/-- behind a call that was handed what is owned: without it -/
theorem cut_gr {F1 H2 : Hp} (ff : Same F F1) (th : ∀ a o, F1 a = some o → F a = some o ∨ LDo o) (g : Gr F1 H F2 H2) :
    ∃ F3, Gr F H F3 H2 ∧ (∀ a o, F2 a = some o → ¬ LDo o → F3 a = some o) ∧ ∀ a, F2 a = none → F3 a = none := by
  classical
  let F3 : Hp := fun a => if F a = none ∧ H a ≠ none then none else F2 a
  have out : ∀ a o, F3 a = some o → F2 a = some o ∧ ¬ (F a = none ∧ H a ≠ none) := fun a o h => by
    have h' : (if F a = none ∧ H a ≠ none then none else F2 a) = some o := h
    by_cases p : F a = none ∧ H a ≠ none
    · rw [if_pos p] at h'; cases h'
    · rw [if_neg p] at h'; exact ⟨h', p⟩
  have inn : ∀ a o, F2 a = some o → ¬ (F a = none ∧ H a ≠ none) → F3 a = some o := fun a o h p => (if_neg p).trans h
  refine ⟨F3, ⟨g.hh, fun a o h => ?_, fun a o h => g.fh a o (out a o h).1, fun a o h => ?_⟩, fun a o h n => ?_, fun a h => ?_⟩
  · exact inn a o (g.ff a o (ff a o h)) fun z => by rw [h] at z; cases z.1
  · obtain ⟨h1, h2⟩ := out a o h
    cases e : F a with
    | some o' =>
      have := g.ff a o' (ff a o' e)
      rw [h1] at this
      exact .inl this.symm
    | none => exact .inr (Classical.byContradiction fun z => h2 ⟨e, z⟩)
  · refine inn a o h fun z => ?_
    rcases g.nw a o h with q | q
    · rcases th a o q with q | q
      · rw [z.1] at q; cases q
      · exact n q
    · exact z.2 q
  · show (if F a = none ∧ H a ≠ none then none else F2 a) = none
    rw [h]; split <;> rfl
end
section
variable {G : GT} {N : List Str} {k : Nat} {fn : Nat → List D → Res D}
theorem pureR_false {d : D} (h : pureR false d = true) : pureD d = true := by
  cases d <;> first | exact h | cases h
theorem call_rdB {X : Cx} {W : WX} {F0 H0 : Hp} {O : List Nat} {i m : Nat} {fs : List (Env → Res D)} (hl : ∀ as : List D, as.length ≠ m → fn i as = .bad) (σ : St) (H : Hp) (Q : VK) (h : xE X W F0 H0 O (cCallB fn false i fs) σ H Q) : tCallS (spEv X.K X.mg m false (fn i)) (WE W) (xA X W F0 H0 [] (cs fs)) σ H Q := by
  obtain ⟨ρ, F, rel, q⟩ := h
  obtain ⟨F1, rel1, ff, th⟩ := rel.thaw
  refine ⟨ρ, F1, rel1, RQ.imp (F := F1) (RQ.seq q) fun as has q1 vs F2 H2 g n => ?_⟩
  have len : as.length = m := by
    by_cases z : as.length = m
    · exact z
    · rw [hl as z] at q1; exact False.elim q1
  refine ⟨by rw [n.length, len], as, F2, g.fh, n, ?_⟩
  cases e : fn i as with
  | ok d =>
    rw [e] at q1
    have q2 : RQ X.K X.mg W σ F H (if pureR false d = true then .ok d else .bad) fun d => ∀ v F' H', Gr F H F' H' → Dn X.K F' v d → Q v H' := q1
    split at q2
    · rename_i p
      intro v F' H' g' n'
      obtain ⟨F3, g3, c1, _⟩ := cut_gr ff th (g.trans g')
      exact q2 v F3 H' g3 (Dn.pcut c1 d v (pureR_false p) n')
    · exact False.elim q2
  | exc x => rw [e] at q1; exact fun cls d H' s z => q1 cls d H' (g.hh.trans s) z
  | bad => rw [e] at q1; exact q1
theorem call_rdBO {X : Cx} {W : WX} {F0 H0 : Hp} {O : List Nat} {i m : Nat} {fs : List (Env → Res D)} (hl : ∀ as : List D, as.length ≠ m → fn i as = .bad) (σ : St) (H : Hp) (Q : VK) (h : xO X W F0 H0 O (cCallB fn true i fs) σ H Q) : tCallS (spEv X.K X.mg m true (fn i)) (WE W) (xA X W F0 H0 [] (cs fs)) σ H Q := by
  obtain ⟨ρ, F, rel, q⟩ := h
  obtain ⟨F1, rel1, ff, th⟩ := rel.thaw
  refine ⟨ρ, F1, rel1, RQ.imp (F := F1) (RQ.seq q) fun as has q1 vs F2 H2 g n => ?_⟩
  have len : as.length = m := by
    by_cases z : as.length = m
    · exact z
    · rw [hl as z] at q1; exact False.elim q1
  refine ⟨by rw [n.length, len], as, F2, g.fh, n, ?_⟩
  cases e : fn i as with
  | ok d =>
    rw [e] at q1
    have q2 : RQ X.K X.mg W σ F H (if pureR true d = true then .ok d else .bad) fun d => ∀ v F' H', Gr F H F' H' → Owv X.K H F' H' v d → Q v H' := q1
    split at q2
    · rename_i p
      intro v F' H' g' n'
      obtain ⟨F3, g3, c1, c2⟩ := cut_gr ff th (g.trans g')
      refine q2 v F3 H' g3 ?_
      cases d with
      | list ds =>
        obtain ⟨a, xs, e1, e2, e3, e4, e5⟩ := n'
        exact ⟨a, xs, e1, g.hh.free e2, c2 a e3, e4, DnL.pcut c1 ds xs p e5⟩
      | dict es => cases p
      | none => exact Dn.pcut c1 _ v p n'
      | bool b => exact Dn.pcut c1 _ v p n'
      | int i => exact Dn.pcut c1 _ v p n'
      | str x => exact Dn.pcut c1 _ v p n'
      | tuple xs => exact Dn.pcut c1 _ v p n'
    · exact False.elim q2
  | exc x => rw [e] at q1; exact fun cls d H' s z => q1 cls d H' (g.hh.trans s) z
  | bad => rw [e] at q1; exact q1
end
end Ev

set_option Elab.async false
set_option linter.all false
set_option maxRecDepth 100000
set_option maxHeartbeats 8000000
/-! The evaluator, part J: the compiled expressions are right, by induction. -/
namespace Ev
open PySem L2
section
variable {X : Cx}
theorem opOf_ok {op : Operator} {g : D → D → Option D} (h : opOf op = some g) : ∃ r, OpR X (binaryOp op) r ∧ Op2 X.K r g := by
  cases op <;> simp only [opOf, Option.some.injEq] at h <;> first | cases h | skip
  · exact ⟨_, op_addX, addD_ok⟩
  · exact ⟨_, op_sub, subD_ok⟩
  · exact ⟨_, op_mulX, mulD_ok⟩
  · exact ⟨_, op_mod, modD_ok⟩
  · exact ⟨_, op_pow, powD_ok⟩
  · exact ⟨_, op_shl, shlD_ok⟩
  · exact ⟨_, op_shr, shrD_ok⟩
  · exact ⟨_, op_and, andD_ok⟩
  · exact ⟨_, op_fdivW, fdivD_ok⟩
theorem cmpOf_ok (hu : X.A.units + 65 < cLine) {op : CmpOp} {g : D → D → Option D} (h : cmpOf op = some g) : ∃ r, OpR X (compareOp op) r ∧ Op2 X.K r g := by
  cases op <;> simp only [cmpOf, Option.some.injEq] at h <;> cases h
  · exact ⟨_, op_eqX hu, eqD_ok⟩
  · exact ⟨_, op_neX hu, neD_ok⟩
  · exact ⟨_, op_ltX hu, ltD_ok⟩
  · exact ⟨_, op_leX hu, leD_ok⟩
  · exact ⟨_, op_gtX hu, gtD_ok⟩
  · exact ⟨_, op_geX hu, geD_ok⟩
  · exact ⟨_, op_isX, isD_ok⟩
  · exact ⟨_, op_notX, isNotD_ok⟩
  · exact ⟨_, op_inX hu, inD_ok⟩
  · exact ⟨_, op_notInX hu, notInD_ok⟩
theorem biOf_ok (hc : X.calm = true) (hu : X.A.units + 67 < cLine) {x : Str} {g : List D → Option D} (h : biOf x = some g) : ∃ id r, CallR X (.builtin id) r ∧ OpN X.K r g ∧ bootBuiltins x = some (.builtin id) := by
  unfold biOf at h
  split at h
  · subst x; cases h; exact ⟨_, _, call_lenX, lenG_ok, by decide +kernel⟩
  split at h
  · subst x; cases h; exact ⟨_, _, cr_all hc, allG_ok, by decide +kernel⟩
  split at h
  · subst x; cases h; exact ⟨_, _, cr_any hc, anyG_ok, by decide +kernel⟩
  split at h
  · subst x; cases h; exact ⟨_, _, cr_sum hc, sumG_ok, by decide +kernel⟩
  split at h
  · subst x; cases h; exact ⟨_, _, call_abs, absG_ok, by decide +kernel⟩
  split at h
  · subst x; cases h; exact ⟨_, _, call_maxX hc, max2G_ok, by decide +kernel⟩
  split at h
  · subst x; cases h; exact ⟨_, _, call_minX hc, min2G_ok, by decide +kernel⟩
  split at h
  · subst x; cases h; exact ⟨_, _, cr_sortAny hc hu, sortG_ok, by decide +kernel⟩
  · cases h
theorem tyOf_ok (hc : X.calm = true) {x : Str} {g : List D → Option D} (h : tyOf x = some g) : ∃ T r, CallR X (.type T) r ∧ OpN X.K r g ∧ bootBuiltins x = some (.type T) := by
  unfold tyOf at h
  split at h
  · subst x; cases h; exact ⟨_, _, call_intX, intG_ok, by decide +kernel⟩
  split at h
  · subst x; cases h; exact ⟨_, _, call_str_int, strG_ok, by decide +kernel⟩
  split at h
  · subst x; cases h; exact ⟨_, _, call_tupX hc, tupG_ok, by decide +kernel⟩
  split at h
  · subst x; cases h; exact ⟨_, _, call_list_of, lstG_ok, by decide +kernel⟩
  split at h
  · subst x; cases h; exact ⟨_, _, call_dictX hc, dictG_ok, by decide +kernel⟩
  · cases h
theorem meth0_ok {m : Str} {g : D → Option D} (h : meth0 m = some g) : ∃ id r, Slot "str" m id ∧ typeOf (.builtin id) = pure (.type "method_descriptor") ∧ MtR X id r ∧ Mt0 X.K r g := by
  unfold meth0 at h
  split at h
  · subst m; cases h; exact ⟨_, _, F.slot_str_upper, F.type_str_upper, mt_upper, upperD_ok⟩
  · cases h
theorem meth1_ok {m : Str} {g : D → D → Option D} (h : meth1 m = some g) : ∃ id r, Slot "str" m id ∧ typeOf (.builtin id) = pure (.type "method_descriptor") ∧ MtR X id r ∧ Mt1 X.K r g := by
  unfold meth1 at h
  split at h
  · subst m; cases h; exact ⟨_, _, F.slot_str_join, F.type_str_join, mt_join, joinD_ok⟩
  split at h
  · subst m; cases h; exact ⟨_, _, F.slot_str_split, F.type_str_split, mt_split, splitD_ok⟩
  split at h
  · subst m; cases h; exact ⟨_, _, F.slot_str_partition, F.type_str_partition, mt_partitionF, partD_ok⟩
  split at h
  · subst m; cases h; exact ⟨_, _, F.slot_str_find, F.type_str_find, mt_find, findD_ok⟩
  · cases h
theorem tyName_ok {x : Str} {T : String} (h : tyName x = some T) : tyOk T = true ∧ bootBuiltins x = some (.type T) := by
  unfold tyName at h
  split at h
  · subst x; cases h; exact ⟨by decide, by decide +kernel⟩
  split at h
  · subst x; cases h; exact ⟨by decide, by decide +kernel⟩
  split at h
  · subst x; cases h; exact ⟨by decide, by decide +kernel⟩
  split at h
  · subst x; cases h; exact ⟨by decide, by decide +kernel⟩
  split at h
  · subst x; cases h; exact ⟨by decide, by decide +kernel⟩
  split at h
  · subst x; cases h; exact ⟨by decide, by decide +kernel⟩
  · cases h
end
theorem obind {α β : Type} {o : Option α} {f : α → Option β} {b : β} (h : (o >>= f) = some b) : ∃ a, o = some a ∧ f a = some b := by
  cases o with
  | none => cases h
  | some a => exact ⟨a, rfl, h⟩
theorem ite_some {α : Type} {c : Prop} [Decidable c] {o : Option α} {a : α} (h : (if c then o else none) = some a) : c ∧ o = some a := by
  split at h
  · exact ⟨‹_›, h⟩
  · cases h
section
variable {G : GT} {N : List Str} {k : Nat} {fn : Nat → List D → Res D}
theorem XOk.blk {X : Cx} {sc : Scope} (o : XOk X G N sc k fn) (scope : Scope) (s : Shared) (H : Hp) (C : Addr) (cl : List (Str × Addr)) (fp : List Addr) : XOk (X.blk s H scope (compEnvC scope cl C X.env) fp) G N (relS scope sc) k fn :=
  ⟨o.n, o.nd, by
    have e : (compEnvC scope cl C X.env).scope = relS scope X.env.scope := rfl
    show (compEnvC scope cl C X.env).scope = _
    rw [e, o.sc], o.calm, o.room, o.consts, o.bis, o.fns⟩
theorem namesIx_get {N : List Str} : ∀ {es : List Expr} {l : List (Str × Nat)}, namesIx N es = some l → Paired (fun (e : Expr) (p : Str × Nat) => ∃ pos, e = .Name p.1 pos ∧ N[p.2]? = some p.1 ∧ okName p.1 = true) es l
  | [], l, h => by cases h; exact .nil
  | e :: r, l, h => by
    cases e with
    | Name x pos =>
      obtain ⟨i, e1, h⟩ := obind (show (ixOf N x >>= fun i => (namesIx N r >>= fun l => if okName x then some ((x, i) :: l) else none)) = some l from h)
      obtain ⟨l', e2, h⟩ := obind h
      obtain ⟨h3, h4⟩ := ite_some h
      cases h4
      exact .cons ⟨pos, rfl, ixOf_get e1, h3⟩ (namesIx_get e2)
    | _ => cases h
/-- names that are stored -/
theorem pg_list {X : Cx} (hN : X.N = N) (nd : N.Nodup) {es : List Expr} {l : List (Str × Nat)} (h : Paired (fun (e : Expr) (p : Str × Nat) => ∃ pos, e = .Name p.1 pos ∧ N[p.2]? = some p.1 ∧ okName p.1 = true) es l)
    (hs : ∀ p ∈ l, Loc X.env.scope p.1 ∧ (X.fn p.1 = true ∨ X.env.scope.names.lookup p.1 = some .local)) : PGs X es (gNames (l.map (·.2))) ∧ (assignEach es X.env).length = (l.map (·.2)).length ∧ (assignEach es X.env).findIdx? (·.1) = none := by
  subst hN
  induction h with
  | nil => exact ⟨pgs_names .nil, rfl, rfl⟩
  | @cons e p es l h1 h2 ih =>
    obtain ⟨pos, rfl, h3, h4⟩ := h1
    obtain ⟨i1, i2, i3⟩ := ih fun q hq => hs q (by simp [hq])
    obtain ⟨s1, s2⟩ := hs p (by simp)
    have g : PG X (.Name p.1 pos) (gName p.2) := pg_name nd h3 s1 s2
    refine ⟨⟨fun pins s σ H vs us Q I r ⟨hl, q⟩ => ?_⟩, ?_, ?_⟩
    · cases vs with
      | nil => cases hl
      | cons v vs => exact (pgs_cons g i1 rfl).run pins s σ H (v :: vs) us Q I r ⟨v, vs, rfl, by simpa using hl, q⟩
    · show (assignEach es X.env).length + 1 = _
      rw [i2]; rfl
    · show List.findIdx? (·.1) ((false, assign (.Name p.1 pos) X.env) :: assignEach es X.env) = none
      rw [List.findIdx?_cons, i3]; rfl
theorem tg_ok {X : Cx} {F0 H0 : Hp} {O : List Nat} {tg : Expr} {tup : Bool} {l : List (Str × Nat)} (hN : X.N = N) (nd : N.Nodup) (hc : X.calm = true) (h : tgIx N tg = some (tup, l))
    (hs : ∀ p ∈ l, Loc X.env.scope p.1 ∧ (X.fn p.1 = true ∨ X.env.scope.names.lookup p.1 = some .local)) (ho : ∀ p ∈ l, p.2 ∉ O) : PG X tg (xG X F0 H0 O tup (l.map (·.2))) := by
  cases tg with
  | Name x pos =>
    obtain ⟨i, e1, h⟩ := obind (show (ixOf N x >>= fun i => if okName x then some (false, [(x, i)]) else none) = some (tup, l) from h)
    obtain ⟨h2, h3⟩ := ite_some h
    cases h3
    obtain ⟨s1, s2⟩ := hs (x, i) (by simp)
    subst hN
    exact pg_nameX (pg_name nd (ixOf_get e1) s1 s2) (ho (x, i) (by simp))
  | Tuple es kk pos =>
    obtain ⟨l', e1, h⟩ := obind (show (namesIx N es >>= fun l => some (true, l)) = some (tup, l) from h)
    cases h
    obtain ⟨h1, h2, h3⟩ := pg_list hN nd (namesIx_get e1) hs
    exact pg_tupX hc h1 (fun i hi => by
      obtain ⟨p, hp, rfl⟩ := List.mem_map.mp hi
      exact ho p hp) h2 h3
  | _ => cases h
/-- in a comprehension's block -/
theorem blk_store {X : Cx} {sc scope : Scope} (hs : X.env.scope = sc) {x : Str} (h : isLoc scope x = true) (s : Shared) (H : Hp) (C : Addr) (cl : List (Str × Addr)) (fp : List Addr) :
    Loc (X.blk s H scope (compEnvC scope cl C X.env) fp).env.scope x ∧ ((X.blk s H scope (compEnvC scope cl C X.env) fp).fn x = true ∨ (X.blk s H scope (compEnvC scope cl C X.env) fp).env.scope.names.lookup x = some .local) := by
  have e : (X.blk s H scope (compEnvC scope cl C X.env) fp).env.scope = relS scope X.env.scope := rfl
  rw [e]
  unfold isLoc at h
  split at h
  · rename_i z
    have : (relS scope X.env.scope).names.lookup x = some .local := lookup_relS_keep (by decide) z
    exact ⟨.inl this, .inr this⟩
  · rename_i z
    have : (relS scope X.env.scope).names.lookup x = some .cell := lookup_relS_keep (by decide) z
    refine ⟨.inr this, .inl ?_⟩
    show (scope.names.lookup x == some .cell) = true
    rw [z]; rfl
  · cases h
theorem tgIx_tup {tg : Expr} {tup : Bool} {l : List (Str × Nat)} (h : tgIx N tg = some (tup, l)) : isTup tg = tup := by
  cases tg with
  | Name x pos =>
    obtain ⟨i, e1, h⟩ := obind (show (ixOf N x >>= fun i => if okName x then some (false, [(x, i)]) else none) = some (tup, l) from h)
    obtain ⟨h2, h3⟩ := ite_some h
    cases h3; rfl
  | Tuple es kk pos =>
    obtain ⟨l', e1, h⟩ := obind (show (namesIx N es >>= fun l => some (true, l)) = some (tup, l) from h)
    cases h; rfl
  | _ => cases h
/-- what is walked -/
theorem compI_ok {X : Cx} {W : WX} {F0 H0 : Hp} {O : List Nat} {sc : Scope} {c : Bool} {tg e : Expr} {ce : Bool → Expr → Option (Env → Res D)} {src : Env → Res (List D)} (o : XOk X G N sc k fn)
    (ih : ∀ esc e f, ce esc e = some f → Snd G X W F0 H0 O esc e f) (h : compI G ce sc c (isTup tg) e = some src) : PI X tg e (xI X W F0 H0 O c (isTup tg) src) := by
  have seq : (ce (!c) e).map cSeq = some src → PI X tg e (xI X W F0 H0 O c (isTup tg) src) := fun h => by
    obtain ⟨f, e1, rfl⟩ := Option.map_eq_some_iff.mp h
    cases c with
    | true => exact pi_seqC (ih _ _ _ e1).read
    | false => exact pi_seqF ((ih _ _ _ e1).kept rfl)
  have tgt : isTup tg = true → ∃ es kk p, tg = .Tuple es kk p := fun h => by
    cases tg <;> first | exact ⟨_, _, _, rfl⟩ | cases h
  unfold compI at h
  split at h
  · rename_i x p args pos
    split at h
    · rename_i hcond
      simp only [Bool.and_eq_true, Bool.or_eq_true, beq_iff_eq] at hcond
      obtain ⟨⟨⟨⟨h1, h2⟩, h3⟩, h4⟩, h5⟩ := hcond
      have hg := isGl_gl o.sc h1
      have hm := o.bis x h2
      split at h
      · rename_i a hx
        have ex : x = "range" := by simpa using hx
        subst ex
        obtain ⟨f, e1, rfl⟩ := Option.map_eq_some_iff.mp h
        rw [List.all_cons, List.all_nil, Bool.and_true] at h3
        exact pi_rng1 hg hm (pa_consE ((ih _ _ _ e1).kept rfl) pa_nilE (starEach_ns h3 _ _)) (starEach_ns h3 _ _)
      · rename_i a b hx
        have ex : x = "range" := by simpa using hx
        subst ex
        obtain ⟨f, e1, h⟩ := obind h
        obtain ⟨f2, e2, h⟩ := obind h
        cases h
        simp only [List.all_cons, List.all_nil, Bool.and_true, Bool.and_eq_true] at h3
        exact pi_rng2 hg hm (pa_consE ((ih _ _ _ e1).kept rfl) (pa_consE ((ih _ _ _ e2).kept rfl) pa_nilE (starEach_ns h3.2 _ _)) (starEach_ns h3.1 _ _)) (by rw [starEach_ns h3.1, starEach_ns h3.2]; rfl) (starEach_ns h3.2 _ _)
      · rename_i a hx hy
        have ex : x = "enumerate" := by simpa using hy
        subst ex
        obtain ⟨ht, h⟩ := ite_some h
        obtain ⟨es, kk, tp, rfl⟩ := tgt ht
        obtain ⟨f, e1, rfl⟩ := Option.map_eq_some_iff.mp h
        rw [List.all_cons, List.all_nil, Bool.and_true] at h3
        exact pi_enumX hg hm (pa_consE ((ih _ _ _ e1).kept rfl) pa_nilE (starEach_ns h3 _ _)) (starEach_ns h3 _ _)
      · rename_i a b hx hy
        have n1 : x ≠ "range" := by simpa using hx
        have n2 : x ≠ "enumerate" := by simpa using hy
        have ex : x = "zip" := by
          rcases h5 with (h5 | h5) | h5
          · exact absurd h5 n1
          · exact absurd h5 n2
          · exact h5
        subst ex
        obtain ⟨ht, h⟩ := ite_some h
        obtain ⟨es, kk, tp, rfl⟩ := tgt ht
        obtain ⟨f, e1, h⟩ := obind h
        obtain ⟨f2, e2, h⟩ := obind h
        cases h
        simp only [List.all_cons, List.all_nil, Bool.and_true, Bool.and_eq_true] at h3
        exact pi_zipX hg hm (pa_consE ((ih _ _ _ e1).kept rfl) (pa_consE ((ih _ _ _ e2).kept rfl) pa_nilE (starEach_ns h3.2 _ _)) (starEach_ns h3.1 _ _)) (starEach_ns h3.1 _ _) (starEach_any (by simp [h3.2]) _ _)
      · cases h
    · exact seq h
  · exact seq h
/-- the parts of a comprehension -/
structure LcP (G : GT) (X : Cx) (W : WX) (F0 H0 : Hp) (O : List Nat) (elt tg iter : Expr) (ifs : List Expr) (scope : Scope) (f : Env → Res D) : Prop where
  ex : ∃ (own : List (Str × Nat)) (tup : Bool) (src : Env → Res (List D)) (tt : Env → Res Bool) (fe : Env → Res D), f = cComp (own.map (·.2)) tup (own.map (·.2)) src tt fe ∧ PI X tg iter (xI X W F0 H0 O true tup src) ∧ BlkOk X.N X.env.scope scope own ∧
    (∀ s H C cl fp, PG (X.blk s H scope (compEnvC scope cl C X.env) fp) tg (xG X F0 H0 O tup (own.map (·.2)))) ∧ (∀ s H C cl fp, PTs (X.blk s H scope (compEnvC scope cl C X.env) fp) ifs (tT X.K X.mg noW F0 H0 O tt)) ∧
    (∀ s H C cl fp, PE (X.blk s H scope (compEnvC scope cl C X.env) fp) elt (tE X.K X.mg noW F0 H0 O fe)) ∧ notSet iter = true
theorem lc_parts {n : Nat} {X : Cx} {W : WX} {F0 H0 : Hp} {sc : Scope} {O : List Nat} {esc : Bool} {elt tg iter : Expr} {ifs : List Expr} {scope : Scope} {pos : Pos} {f : Env → Res D} (o : XOk X G N sc k fn) (tk : Takes X W)
    (ih : ∀ (X : Cx) (W : WX) (F0 H0 : Hp) (sc : Scope) (O : List Nat) (esc : Bool) (e : Expr) (f : Env → Res D), XOk X G N sc k fn → Takes X W → compE fn G N n sc O esc e = some f → Snd G X W F0 H0 O esc e f)
    (h : compE fn G N (n + 1) sc O esc (.ListComp elt [⟨tg, iter, ifs, 0⟩] scope pos) = some f) : LcP G X W F0 H0 O elt tg iter ifs scope f := by
  simp only [compE] at h
  replace h := (ite_some h).2
  obtain ⟨⟨tup, own⟩, e1, h⟩ := obind h
  obtain ⟨src, e2, h⟩ := obind h
  obtain ⟨cond, e3, h⟩ := obind h
  obtain ⟨fe, e4, h⟩ := obind h
  obtain ⟨hc, h⟩ := ite_some h
  cases h
  simp only [Bool.and_eq_true, List.all_eq_true, Bool.not_eq_true', List.contains_eq_mem, decide_eq_false_iff_not] at hc
  obtain ⟨⟨hb, hl⟩, hns⟩ := hc
  refine ⟨own, tup, src, cond, fe, rfl, tgIx_tup e1 ▸ compI_ok o (fun esc e f z => ih X W F0 H0 sc O esc e f o tk z) e2, ?_, fun s H C cl fp => ?_, fun s H C cl fp => ?_, fun s H C cl fp => ?_, hns⟩
  · rw [o.n, o.sc]; exact blkOk_by hb
  · exact tg_ok (X := X.blk s H scope (compEnvC scope cl C X.env) fp) o.n o.nd o.calm e1 (fun p hp => blk_store o.sc (hl p hp).1 s H C cl fp) fun p hp => (hl p hp).2
  · have ob := o.blk scope s H C cl fp
    cases ifs with
    | nil =>
      cases e3
      exact ⟨fun pins s' σ H' Q I ⟨ρ, F, rel, q⟩ => pts_nil.run pins s' σ H' Q I (q F H' (Gr.refl rel.sfh))⟩
    | cons c r =>
      cases r with
      | nil =>
        obtain ⟨hi, e3⟩ := ite_some e3
        obtain ⟨fc, e5, rfl⟩ := Option.map_eq_some_iff.mp e3
        exact pts_one ((ih _ noW F0 H0 _ O true c fc ob takes0 e5).test hi rfl)
      | cons _ _ => cases e3
  · exact (ih _ noW F0 H0 _ O true elt fe (o.blk scope s H C cl fp) takes0 e4).kept rfl
theorem LcP.own {X : Cx} {W : WX} {F0 H0 : Hp} {O : List Nat} {elt tg iter : Expr} {ifs : List Expr} {scope : Scope} {f : Env → Res D} {pos : Pos} (hc : X.calm = true) (hN : X.N.Nodup) (p : LcP G X W F0 H0 O elt tg iter ifs scope f) :
    PE X (.ListComp elt [⟨tg, iter, ifs, 0⟩] scope pos) (xO X W F0 H0 O f) := by
  obtain ⟨own, tup, src, tt, fe, rfl, h1, h2, h3, h4, h5, h6⟩ := p.ex
  exact PE.of (pe_lc hc hN h1 h2 h3 h4 h5 (folded_ns h6 _)) (lc_rd fun i hi => hi)
theorem pe_callS0 {X : Cx} {CX : CXT} {k : Nat} {f : Addr} {fd : FuncData} {ps : List Str} {sp : Sp} {E : St → XK} {x : Str} {p pos : Pos} (F : FnOk X.prog X.w X.K X.mg X.base CX k f fd ps sp) (hr : Room k X.A) (hg : Gl X x) (hm : X.mg x = some (.ref f)) (hk : PySem.W.keepIn X.K (.ref f) = true) (hb : Binds X.K fd ps []) (hx : ∀ σ, PassesAt CX X σ (E σ))
    (hdb : (x == ("__debug__" : Str)) = false := by decide) : PE X (.Call (.Name x p) [] [] pos) (tCallS sp E tNil) := by
  refine ⟨fun pins s σ H Q I h => ?_⟩
  refine wpAny_Call_Name_kw (ld_glob I hg hm ?_ hdb)
  exact PySem.W.callWith_K0 I.kIn hk (run_fnS (us := []) F hr hb (hx σ) I .nil h)
theorem nil_call {X : Cx} {W : WX} {F0 H0 : Hp} {O : List Nat} {sp : Sp} {E : St → XK} {σ : St} {H : Hp} {Q : VK} (h : tCallS sp E (xA X W F0 H0 O (cs [])) σ H Q) : tCallS sp E tNil σ H Q := by
  obtain ⟨ρ, F, rel, q⟩ := h
  exact q [] F H (Gr.refl rel.sfh) .nil
theorem compE_ok : ∀ (n : Nat) (X : Cx) (W : WX) (F0 H0 : Hp) (sc : Scope) (O : List Nat) (esc : Bool) (e : Expr) (f : Env → Res D), XOk X G N sc k fn → Takes X W → compE fn G N n sc O esc e = some f → Snd G X W F0 H0 O esc e f := by
  intro n
  induction n with
  | zero => intro X W F0 H0 sc O esc e f _ _ h; cases h
  | succ n ih =>
    intro X W F0 H0 sc O esc e f o tk h
    have hu := o.hu
    have hc := o.calm
    have ih' := fun esc e f z => ih X W F0 H0 sc O esc e f o tk z
    cases e with
    | Name x pos =>
      simp only [compE] at h
      obtain ⟨hk, h⟩ := ite_some h
      obtain ⟨d1, d2, d3⟩ := okName_dbg hk
      split at h
      · rename_i hv
        obtain ⟨i, e1, h⟩ := obind h
        split at h
        · cases h
        · rename_i he
          cases h
          have hN : X.N[i]? = some x := by rw [o.n]; exact ixOf_get e1
          have vis : Vis X.env.scope x := by rw [o.sc]; exact isVis_vis hv
          refine ⟨fun z => ?_, pe_slotR hN vis d1 d2, fun _ z => ?_, fun z => (by cases z), fun z => by cases z⟩
          · have : i ∉ O := by
              subst z
              simpa using he
            exact pe_slotE this hN vis d1 d2
          · have : i ∉ O := by
              subst z
              simpa using he
            exact PT.of (pt_val (pe_slotE this hN vis d1 d2) (plain_test rfl _)) tB_of
      · obtain ⟨hgl, h⟩ := ite_some h
        obtain ⟨d, e1, rfl⟩ := Option.map_eq_some_iff.mp h
        obtain ⟨u, v, h1, h2, h3⟩ := o.consts x d e1
        exact Snd.of_e rfl rfl (pe_const (isGl_gl o.sc hgl) h1 h2 h3 d1)
    | Constant c kk pos =>
      cases c <;> simp only [compE] at h <;> cases h
      · exact Snd.of_e rfl rfl pe_litN
      · exact Snd.of_e rfl rfl pe_litB
      · exact Snd.of_e rfl rfl pe_litI
      · exact Snd.of_e rfl rfl pe_litS
    | UnaryOp op a pos =>
      cases op <;> simp only [compE] at h <;> first | cases h | skip
      · obtain ⟨hi, h⟩ := ite_some h
        obtain ⟨fa, e1, rfl⟩ := Option.map_eq_some_iff.mp h
        have s := ih' true a fa e1
        exact Snd.of_et rfl rfl (pe_notE (s.kept rfl)) fun _ => pt_notT (s.test hi rfl)
      · obtain ⟨fa, e1, rfl⟩ := Option.map_eq_some_iff.mp h
        exact Snd.of_e rfl rfl (PE.of (pe_un un_neg (ih' false a fa e1).read) negD_ok)
    | BinOp a op b pos =>
      simp only [compE] at h
      obtain ⟨g, e1, h⟩ := obind h
      obtain ⟨fa, e2, h⟩ := obind h
      obtain ⟨fb, e3, h⟩ := obind h
      cases h
      obtain ⟨r, h1, h2⟩ := opOf_ok (X := X) e1
      exact Snd.of_o rfl (pe_bin h1 h2 (ih' _ _ _ e2).read (ih' _ _ _ e3).read)
    | BoolOp op vs pos =>
      cases vs with
      | nil => simp only [compE] at h; cases h
      | cons a r =>
        cases r with
        | nil =>
          simp only [compE] at h
          obtain ⟨hi, h⟩ := ite_some h
          have s := ih' true a f h
          have t := s.test hi rfl
          cases op with
          | And => exact Snd.of_w rfl (pe_one (s.kept rfl)) (pw_and1 t) (pw_and1 t).pt
          | Or => exact Snd.of_w rfl (pe_one (s.kept rfl)) (pw_or1 t) (pw_or1 t).pt
        | cons b r =>
          simp only [compE] at h
          obtain ⟨hi, h⟩ := ite_some h
          obtain ⟨fa, e1, h⟩ := obind h
          obtain ⟨fb, e2, h⟩ := obind h
          have s := ih' true a fa e1
          have s2 := ih' true (.BoolOp op (b :: r) pos) fb e2
          have t := s.test hi rfl
          cases op with
          | And =>
            cases h
            have w := pw_andT t (s2.pw rfl rfl)
            exact Snd.of_w rfl (pe_andE rfl (s.kept rfl) (s2.kept rfl)) w w.pt
          | Or =>
            cases h
            have w := pw_orT t (s2.pw rfl rfl)
            exact Snd.of_w rfl (pe_orE rfl (s.kept rfl) (s2.kept rfl)) w w.pt
    | Compare a ops bs pos =>
      simp only [compE] at h
      split at h
      · rename_i op b
        obtain ⟨hb, h⟩ := ite_some h
        obtain ⟨g, e1, h⟩ := obind h
        obtain ⟨fa, e2, h⟩ := obind h
        obtain ⟨fb, e3, h⟩ := obind h
        cases h
        obtain ⟨r, h1, h2⟩ := cmpOf_ok (X := X) hu e1
        exact Snd.of_et rfl rfl (PE.e_of_o (pe_cmp2 h1 h2 (ih' _ _ _ e2).read (ih' _ _ _ e3).read (mark_ns hb))) fun _ => pt_cmp2 h1 h2 (ih' _ _ _ e2).read (ih' _ _ _ e3).read (mark_ns hb)
      · rename_i op op' b c
        obtain ⟨hb, h⟩ := ite_some h
        rw [Bool.and_eq_true] at hb
        obtain ⟨g, e1, h⟩ := obind h
        obtain ⟨g', e1', h⟩ := obind h
        obtain ⟨fa, e2, h⟩ := obind h
        obtain ⟨fb, e3, h⟩ := obind h
        obtain ⟨fc, e4, h⟩ := obind h
        cases h
        obtain ⟨r, h1, h2⟩ := cmpOf_ok (X := X) hu e1
        obtain ⟨r', h1', h2'⟩ := cmpOf_ok (X := X) hu e1'
        exact Snd.of_et rfl rfl (pe_chainE h1 h1' h2 h2' (ih' _ _ _ e2).read (ih' _ _ _ e3).read (ih' _ _ _ e4).read (lastMark_ns hb.2)) fun _ => pt_chainT h1 h1' h2 h2' (ih' _ _ _ e2).read (ih' _ _ _ e3).read (ih' _ _ _ e4).read (lastMark_ns hb.2)
      · cases h
    | IfExp c a b pos =>
      simp only [compE] at h
      obtain ⟨hi, h⟩ := ite_some h
      obtain ⟨fc, e1, h⟩ := obind h
      obtain ⟨fa, e2, h⟩ := obind h
      obtain ⟨fb, e3, h⟩ := obind h
      cases h
      exact Snd.of_et rfl rfl (pe_ifE ((ih' _ _ _ e1).test hi rfl) ((ih' _ _ _ e2).kept rfl) ((ih' _ _ _ e3).kept rfl)) fun z => by cases z
    | Tuple es kk pos =>
      simp only [compE] at h
      obtain ⟨hi, h⟩ := ite_some h
      obtain ⟨fs, e1, rfl⟩ := Option.map_eq_some_iff.mp h
      exact Snd.of_e rfl rfl (pe_tupE (args_e (fun e f z => ih' true e f z) hi e1))
    | List es pos =>
      simp only [compE] at h
      obtain ⟨hi, h⟩ := ite_some h
      obtain ⟨fs, e1, rfl⟩ := Option.map_eq_some_iff.mp h
      exact Snd.of_o rfl (pe_lstO (args_e (fun e f z => ih' true e f z) hi e1))
    | Subscript a sl pos =>
      cases sl with
      | Slice l hh st p2 =>
        simp only [compE] at h
        split at h
        · rename_i heq
          cases heq
          obtain ⟨fa, e1, rfl⟩ := Option.map_eq_some_iff.mp h
          exact Snd.of_o rfl (pe_revO (ih' _ _ _ e1).read)
        · rename_i heq
          cases heq
          obtain ⟨fa, e1, h⟩ := obind h
          obtain ⟨fl, e2, h⟩ := obind h
          obtain ⟨fh, e3, h⟩ := obind h
          cases h
          have part : ∀ {l : Option Expr} {fl : Option (Env → Res D)}, (match l with
              | none => some none
              | some e => (compE fn G N n sc O false e).map some) = some fl → PO X l (xPart X W F0 H0 O (cPart fl)) := by
            intro l fl z
            cases l with
            | none => cases z; exact po_noneX
            | some e =>
              obtain ⟨g, z1, rfl⟩ := Option.map_eq_some_iff.mp z
              exact po_someX (ih' _ _ _ z1).read
          exact Snd.of_o rfl (pe_slO (ih' _ _ _ e1).read (part e2) (part e3))
        · cases h
        · rename_i z; exact absurd rfl (z _ _ _ _)
      | _ =>
        simp only [compE] at h
        obtain ⟨fa, e1, h⟩ := obind h
        obtain ⟨fb, e2, h⟩ := obind h
        cases h
        exact Snd.of_e rfl rfl (pe_ixE (by have := hu; omega) (ih' _ _ _ e1).read (ih' _ _ _ e2).read (plainIx_ns rfl))
    | Call fx args kws pos =>
      cases fx with
      | Name x p =>
        cases kws with
        | cons _ _ => simp only [compE] at h; cases h
        | nil =>
          simp only [compE] at h
          obtain ⟨hcnd, h⟩ := ite_some h
          simp only [Bool.and_eq_true] at hcnd
          obtain ⟨⟨hgl, hk⟩, hns⟩ := hcnd
          obtain ⟨d1, d2, d3⟩ := okName_dbg hk
          have hg := isGl_gl o.sc hgl
          split at h
          · rename_i i hi
            cases args with
            | nil =>
              cases h
              obtain ⟨f', fd, ps, m1, m2, m3, m4, m5⟩ := o.fns x i hi
              cases hfr : G.frs.contains x with
              | false =>
                rw [hfr] at m4
                refine Snd.of_e ?_ rfl (PE.of (pe_callS0 (E := WE W) m4 o.room hg m1 m2 m3 (fun σ => passAt tk σ) d1) fun σ H Q h => nil_call (call_rd m5 σ H Q h))
                show (if (G.fns.lookup x).isSome = true then G.frs.contains x else !(x == "isinstance")) = false
                rw [hi, hfr]; rfl
              | true =>
                rw [hfr] at m4
                exact Snd.of_o rfl (PE.of (pe_callS0 (E := WE W) m4 o.room hg m1 m2 m3 (fun σ => passAt tk σ) d1) fun σ H Q h => nil_call (call_rdO m5 σ H Q h))
            | cons a r =>
              simp only at h
              split at h
              · rename_i fs e1
                cases h
                obtain ⟨f', fd, ps, m1, m2, m3, m4, m5⟩ := o.fns x i hi
                have hns' := hns
                rw [List.all_cons, Bool.and_eq_true] at hns
                cases hfr : G.frs.contains x with
                | false =>
                  rw [hfr] at m4
                  refine Snd.of_e ?_ rfl (PE.of (pe_callS (E := WE W) m4 o.room hg m1 m2 m3 (fun σ => passAt tk σ) (args_e (fun e f z => ih' true e f z) hns' e1) d1 (starEach_ns hns.1 _ _) (starEach_any hns.2 _ _)) (call_rd m5))
                  show (if (G.fns.lookup x).isSome = true then G.frs.contains x else !(x == "isinstance")) = false
                  rw [hi, hfr]; rfl
                | true =>
                  rw [hfr] at m4
                  exact Snd.of_o rfl (PE.of (pe_callS (E := WE W) m4 o.room hg m1 m2 m3 (fun σ => passAt tk σ) (args_e (fun e f z => ih' true e f z) hns' e1) d1 (starEach_ns hns.1 _ _) (starEach_any hns.2 _ _)) (call_rdO m5))
              · obtain ⟨fs, e1, rfl⟩ := Option.map_eq_some_iff.mp h
                obtain ⟨f', fd, ps, m1, m2, m3, m4, m5⟩ := o.fns x i hi
                have hns' := hns
                rw [List.all_cons, Bool.and_eq_true] at hns
                cases hfr : G.frs.contains x with
                | false =>
                  rw [hfr] at m4
                  refine Snd.of_e ?_ rfl (PE.of (pe_callS (E := WE W) m4 o.room hg m1 m2 m3 (fun σ => passAt tk σ) (args_e (fun e f z => ih X W F0 H0 sc [] true e f o tk z) hns' e1) d1 (starEach_ns hns.1 _ _) (starEach_any hns.2 _ _)) (call_rdB m5))
                  show (if (G.fns.lookup x).isSome = true then G.frs.contains x else !(x == "isinstance")) = false
                  rw [hi, hfr]; rfl
                | true =>
                  rw [hfr] at m4
                  exact Snd.of_o rfl (PE.of (pe_callS (E := WE W) m4 o.room hg m1 m2 m3 (fun σ => passAt tk σ) (args_e (fun e f z => ih X W F0 H0 sc [] true e f o tk z) hns' e1) d1 (starEach_ns hns.1 _ _) (starEach_any hns.2 _ _)) (call_rdBO m5))
          · rename_i hi
            obtain ⟨hbi, h⟩ := ite_some h
            have hm := o.bis x hbi
            split at h
            · rename_i a t p2 hx _ _
              have hh := h
              have ex : x = "isinstance" := by simpa using hx
              subst ex
              obtain ⟨T, e1, h⟩ := obind hh
              obtain ⟨fa, e2, h⟩ := obind h
              obtain ⟨h2, h⟩ := ite_some h
              cases h
              simp only [Bool.and_eq_true] at h2
              obtain ⟨⟨g2, k2⟩, b2⟩ := h2
              obtain ⟨q1, q2, q3⟩ := okName_dbg k2
              obtain ⟨t1, t2⟩ := tyName_ok e1
              simp only [List.all_cons, Bool.and_eq_true] at hns
              refine Snd.of_e (by show (if (G.fns.lookup ("isinstance" : Str)).isSome = true then G.frs.contains ("isinstance" : Str) else !(("isinstance" : Str) == ("isinstance" : Str))) = false; rw [hi]; rfl) rfl ?_
              exact pe_isiE t1 t2 hg hm (isGl_gl o.sc g2) (o.bis t b2) q3 q1 (ih' _ _ _ e2).read (starEach_ns hns.1 _ _)
            · cases h
            · rename_i a r _ _ _
              split at h
              · rename_i o' ho'
                obtain ⟨f', e1, rfl⟩ := Option.map_eq_some_iff.mp h
                obtain ⟨ex, apos, mpos, ea, nb, hl⟩ := tvOf_ok ho'
                subst ex
                cases ea
                exact Snd.of_o rfl (pe_tvO hc hg hm (ih' _ _ _ e1).read nb hl)
              split at h
              · rename_i e0 g0 hs0
                obtain ⟨n0, h⟩ := ite_some h
                obtain ⟨f', e1, rfl⟩ := Option.map_eq_some_iff.mp h
                obtain ⟨q2, q3, ea, sb, alt⟩ := stOf_ok hs0
                cases ea
                simp only [bisAt, Bool.and_eq_true] at sb
                have g2 := isGl_gl o.sc sb.1.1
                have m2 := o.bis _ sb.2
                have u2 : X.A.units + 67 < cLine := by have := o.room.un; omega
                rcases alt with ⟨rfl, rfl⟩ | ⟨rfl, rfl⟩
                · exact Snd.of_o rfl (pe_ssO hc u2 hg hm g2 m2 (ih' _ _ _ e1).read (starEach_ns n0 _ _))
                · exact Snd.of_o rfl (pe_lsO hc u2 hg hm g2 m2 (ih' _ _ _ e1).read (starEach_ns n0 _ _))
              · have hh := h
                obtain ⟨fs, e1, h⟩ := obind hh
                have hns' := hns
                rw [List.all_cons, Bool.and_eq_true] at hns
                have ha := args_r (X := X) (W := W) (F0 := F0) (H0 := H0) (O := O) (fun e f z => ih' false e f z) hns' e1
                split at h
                · rename_i g e2
                  cases h
                  obtain ⟨id, r', q1, q2, q3⟩ := biOf_ok (X := X) hc (by have := o.room.un; omega) e2
                  exact Snd.of_o rfl (pe_biO q1 q2 hg hm q3 ha d3 d1 (starEach_ns hns.1 _ _) (starEach_any hns.2 _ _))
                · split at h
                  · rename_i g e2
                    cases h
                    obtain ⟨id, r', q1, q2, q3⟩ := tyOf_ok (X := X) hc e2
                    exact Snd.of_o rfl (pe_tyO q1 q2 hg hm q3 ha d3 d1 (starEach_ns hns.1 _ _) (starEach_any hns.2 _ _))
                  · cases h
      | Attribute o m apos =>
        cases args with
        | cons e1 r1 =>
          cases r1 with
          | cons _ _ => simp only [compE] at h; cases h
          | nil =>
            cases kws with
            | cons _ _ => simp only [compE] at h; cases h
            | nil =>
              simp only [compE] at h
              obtain ⟨hcnd, h⟩ := ite_some h
              simp only [Bool.and_eq_true] at hcnd
              obtain ⟨fo, e2, h2⟩ := obind h
              clear h
              obtain ⟨fe, e3, h3⟩ := obind h2
              clear h2
              split at h3
              · rename_i hm
                cases h3
                subst hm
                exact Snd.of_e rfl rfl (pe_dgetE (by omega) (ih' _ _ _ e2).read (ih' _ _ _ e3).read hcnd.1.1 hcnd.2 (starEach_ns hcnd.1.2 _ _))
              split at h3
              · rename_i hm
                cases h3
                subst hm
                exact Snd.of_e rfl rfl (pe_tidxE (by omega) (ih' _ _ _ e2).read (ih' _ _ _ e3).read hcnd.1.1 hcnd.2 (starEach_ns hcnd.1.2 _ _))
              · obtain ⟨g, e1', rfl⟩ := Option.map_eq_some_iff.mp h3
                obtain ⟨id, r, q1, q2, q3, q4⟩ := meth1_ok (X := X) e1'
                exact Snd.of_o rfl (pe_m1O q1 q2 q3 q4 (ih' _ _ _ e2).read (ih' _ _ _ e3).read hcnd.1.1 hcnd.2 (starEach_ns hcnd.1.2 _ _))
        | nil =>
          cases kws with
          | cons _ _ => simp only [compE] at h; cases h
          | nil =>
            simp only [compE] at h
            obtain ⟨hcnd, h⟩ := ite_some h
            rw [Bool.and_eq_true] at hcnd
            obtain ⟨g, e1, h⟩ := obind h
            obtain ⟨fo, e2, h⟩ := obind h
            cases h
            obtain ⟨id, r, q1, q2, q3, q4⟩ := meth0_ok (X := X) e1
            exact Snd.of_o rfl (pe_m0O q1 q2 q3 q4 (ih' _ _ _ e2).read hcnd.1 hcnd.2)
      | _ => simp only [compE] at h; cases h
    | Dict ks vs pos =>
      cases ks with
      | cons _ _ => simp only [compE] at h; cases h
      | nil =>
        cases vs with
        | cons _ _ => simp only [compE] at h; cases h
        | nil =>
          simp only [compE] at h
          cases h
          exact Snd.of_o rfl pe_dictO
    | ListComp elt gs scope pos =>
      cases gs with
      | nil => simp only [compE] at h; cases h
      | cons g r =>
        obtain ⟨tg, iter, ifs, asy⟩ := g
        cases r with
        | cons _ _ => simp only [compE] at h; cases h
        | nil =>
          have ha : asy = 0 := by
            simp only [compE] at h
            exact (ite_some h).1
          subst ha
          exact Snd.of_o rfl ((lc_parts o tk ih h).own hc (o.n ▸ o.nd))
    | _ => simp only [compE] at h; cases h
end
end Ev

set_option Elab.async false
set_option linter.all false
set_option maxRecDepth 100000
set_option maxHeartbeats 8000000
/-! The evaluator, part K: statements compiled, and that they are right. -/
namespace Ev
open PySem L2

/-! ### sets of slots -/
def ins (i : Nat) (O : List Nat) : List Nat := if O.contains i then O else i :: O
def uni (A B : List Nat) : List Nat := A.foldr ins B
def sbs (A B : List Nat) : Bool := A.all B.contains
theorem sbs_ok {A B : List Nat} (h : sbs A B = true) : ∀ k ∈ A, k ∈ B := fun k hk => by
  have := List.all_eq_true.mp h k hk
  simpa using this
/-- the slots that are changed in place behind here, ahead of their next store -/
def live (N : List Str) (fr : Bool) : Nat → List Stmt → List Nat → List Nat → List Nat
  | 0, _, O1, _ => O1
  | _, [], O1, _ => O1
  | n + 1, s :: r, O1, Ob =>
    let M := live N fr n r O1 Ob
    match s with
    | .Expr (.Call (.Attribute (.Name x _) _ _) _ _ _) _ => (match ixOf N x with
      | some i => ins i M
      | none => M)
    | .Assign [.Name x _] _ _ => (match ixOf N x with
      | some i => M.filter (· != i)
      | none => M)
    | .Assign [.Subscript (.Name x _) _ _] _ _ => (match ixOf N x with
      | some i => ins i M
      | none => M)
    | .If _ a b _ => uni (live N fr n a M Ob) (live N fr n b M Ob)
    | .For _ _ body _ _ =>
      let L := uni (live N fr n body M M) M
      uni (live N fr n body L L) L
    | .While _ body _ _ =>
      let L := uni (live N fr n body M M) M
      uni (live N fr n body L L) L
    | .Return (some (.Name x _)) _ => if fr = true then (match ixOf N x with
      | some i => [i]
      | none => []) else []
    | .Return _ _ => []
    | .Break _ => Ob
    | .Continue _ => Ob
    | _ => M
/-- the order of stores of a pair -/
def isFunK : ScopeKind → Bool
  | .function => true
  | _ => false
def locAt (sc : Scope) (l : Nat) : Expr → Option Str
  | .Name x pos => if sc.names.lookup x == some .local && pos.line == l then some x else none
  | _ => none
def notLC : Expr → Bool
  | .ListComp _ _ _ _ => false
  | .SetComp _ _ _ _ => false
  | .DictComp _ _ _ _ _ => false
  | _ => true
def notTup : Expr → Bool
  | .Tuple _ _ _ => false
  | _ => true
theorem sw_ns {e : Expr} (h : notLC e = true) (t : Option Expr) (l : Nat) (env : PySem.Env) : swapsWith e t l env = pure false := by
  cases e <;> first | rfl | (cases h; done)
theorem sw_tup {e : Expr} {es : List Expr} {kk p} (l : Nat) (env : PySem.Env) : swapsWith e (some (.Tuple es kk p)) l env = pure false := by
  cases e <;> rfl
theorem sw_sub {e o i : Expr} {p} (l : Nat) (env : PySem.Env) : swapsWith e (some (.Subscript o i p)) l env = pure false := by
  cases e <;> rfl
theorem swst_nt {ts : List Expr} {e : Expr} (h : notTup e = true) (env : PySem.Env) : swappedStores ts e env = pure none := by
  unfold swappedStores
  cases e <;> first | (cases h; done) | (split <;> first | (rename_i z; split at z <;> first | (rename_i w; cases w; done) | (cases z; done)) | rfl)
def starred : Expr → Bool
  | .Starred _ _ => true
  | _ => false
theorem star_ns (e : Expr) : notStar e = true → (match e with | .Starred .. => true | _ => false) = false := by
  intro h; cases e <;> first | rfl | (cases h; done)
theorem sw_par {x y : Str} {a b : Expr} {px py pt pt2 : Pos} {kt k2} {env : PySem.Env} (hk : isFunK env.scope.kind = true) (hx : env.scope.names.lookup x = some .local) (hy : env.scope.names.lookup y = some .local) (hl : (py.line == px.line) = true) (hxy : x ≠ y)
    (ha : notStar a = true) (hb : notStar b = true) (h1 : (foldedForSure 8 a && foldedForSure 8 b) = false) (h2 : (constantsAlone 8 a && constantsAlone 8 b) = false) :
    swappedStores [.Tuple [.Name x px, .Name y py] kt pt] (.Tuple [a, b] k2 pt2) env = pure (some [x, y]) := by
  have hb' : env.blockKind = .function := by
    unfold Env.blockKind
    unfold isFunK at hk
    split at hk
    · rename_i z; rw [z]; rfl
    · cases hk
  have kx : env.kindOf x = some .local := hx
  have ky : env.kindOf y = some .local := hy
  have hyx : (y == x) = false := by simpa using fun z => hxy z.symm
  have hxyb : (x == y) = false := by simpa using hxy
  have sa := star_ns a ha
  have sb := star_ns b hb
  have hp : (px.line == px.line) = true := by simp
  unfold swappedStores
  simp only [List.length_cons, List.length_nil, hb', List.any_cons, List.any_nil, sa, sb, List.filterMap_cons, List.filterMap_nil, kx, ky, List.all_cons, List.all_nil, Bool.and_true, h1, h2, List.head?_cons, Option.map_some, Option.getD_some, Expr.pos, hl, hp, Bool.or_false]
  simp [List.eraseDups_cons, hyx, hxyb]
  intro z
  rcases z with z | z
  · cases a <;> first | (cases z; done) | (cases ha; done)
  · cases b <;> first | (cases z; done) | (cases hb; done)
theorem sw_fold {ts vs : List Expr} {kt pt k2 pt2} {env : PySem.Env} (h : vs.all (foldedForSure 8) = true) : swappedStores [.Tuple ts kt pt] (.Tuple vs k2 pt2) env = pure none := by
  unfold swappedStores
  simp only [h, if_true, reduceIte]
  repeat' split
  all_goals first | rfl | (rename_i z; exact absurd rfl z)
/-! ### owners claimed -/
section
variable {K : PySem.W.Frag} {F0 H0 F H F' H' : Hp} {O : List Nat} {ρ : Env} {σ : St}
theorem Rel.claim (r : Rel K F0 H0 O ρ σ F H) (i : Nat) : Rel K F0 H0 (i :: O) (ρ.set i none) (σ.set i none) F H := by
  have r' := r.clear i
  have no : ∀ {d : D}, (ρ.set i none)[i]? = some (some d) → False := fun {d} h => by
    by_cases hl : i < ρ.length
    · rw [List.getElem?_set_self hl] at h; cases h
    · rw [List.getElem?_eq_none (by simp; omega)] at h; cases h
  refine ⟨r'.len, r'.sfh, r'.s0, r'.sf0, r'.nw, fun j d h1 h2 => r'.fz j d (fun z => h1 (List.mem_cons_of_mem _ z)) h2, fun j d h1 h2 => ?_, fun j k d e a h1 h2 h3 h4 h5 h6 h7 h8 h9 => ?_⟩
  · rcases List.mem_cons.mp h1 with z | z
    · subst z; exact (no h2).elim
    · exact r'.ow j d z h2
  · rcases List.mem_cons.mp h1 with z | z
    · subst z; exact (no h4).elim
    · rcases List.mem_cons.mp h2 with w | w
      · subst w; exact (no h5).elim
      · exact r'.ap j k d e a z w h3 h4 h5 h6 h7 h8 h9
theorem Rel.own1 (r : Rel K F0 H0 O ρ σ F H) (g : Gr F H F' H') (i : Nat) {d : D} {v : V} (w : Owv K H F' H' v d) : Rel K F0 H0 (i :: O) (ρ.set i (some d)) (σ.set i (some v)) F' H' := by
  have := (r.claim i).setO g (List.mem_cons_self) w
  rwa [List.set_set, List.set_set] at this
end
section
variable {X : Cx} {W : WX} {F0 H0 : Hp} {O O1 Ob : List Nat} {fr : Bool} {pos : Pos}
/-- name = e, the name owned from here on -/
theorem own1_rd {i : Nat} {f : Env → Res D} (σ : St) (H : Hp) (E : Ends) (h : xS X W F0 H0 O (i :: O) Ob fr (cAsg false [i] f) E σ H) : tAsg (xO X W F0 H0 O f) (gName i) E σ H := by
  obtain ⟨ρ, F, rel, q⟩ := h
  exact ⟨ρ, F, rel, (FQ.of rel.s0 q).imp fun d _ q1 v F' H' g w => q1 _ F' H' g.ff (rel.own1 g i w)⟩
theorem PS.after {st : Stmt} {f : Cmd} {O2 : List Nat} (h : PS X st (xS X W F0 H0 O O2 Ob fr f)) (i : ∀ k ∈ O1, k ∈ O2) : PS X st (xS X W F0 H0 O O1 Ob fr f) :=
  PS.of h fun E σ H ⟨ρ, F, rel, q⟩ => ⟨ρ, F, rel, q.ends i⟩
theorem PS.both {st : Stmt} {f : Cmd} {O' O2 : List Nat} (h : PS X st (xS X W F0 H0 O' O2 Ob fr f)) (a : sbs O' O = true) (b : sbs O1 O2 = true) : PS X st (xS X W F0 H0 O O1 Ob fr f) :=
  PS.after (PS.owners h (sbs_ok a)) (sbs_ok b)
end
end Ev

set_option Elab.async false
set_option linter.all false
set_option maxRecDepth 100000
set_option maxHeartbeats 8000000
/-! The evaluator, part L: statements compiled. -/
namespace Ev
open PySem L2

def isLoc1 (sc : Scope) (x : Str) : Bool := match sc.names.lookup x with
  | some .local => true
  | _ => false
theorem isLoc1_ok {sc : Scope} {x : Str} (h : isLoc1 sc x = true) : sc.names.lookup x = some .local := by
  unfold isLoc1 at h
  split at h
  · assumption
  · cases h
theorem isLoc_ok {sc : Scope} {x : Str} (h : isLoc sc x = true) : Loc sc x := by
  unfold isLoc at h
  split at h
  · exact .inl (by assumption)
  · exact .inr (by assumption)
  · cases h
def isLC : Expr → Bool
  | .ListComp _ _ _ _ => true
  | _ => false
theorem sw_cell {e : Expr} {x : Str} {px : Pos} {env : PySem.Env} (h : isLC e = true) (hx : isLoc1 env.scope x = false) (l : Nat) : swapsWith e (some (.Name x px)) l env = pure false := by
  cases e <;> first | (cases h; done) | skip
  have hk : (env.kindOf x == some .local) = false := by
    show (env.scope.names.lookup x == some .local) = false
    unfold isLoc1 at hx
    split at hx
    · cases hx
    · rename_i z
      exact beq_eq_false_iff_ne.mpr z
  unfold swapsWith
  simp [hk]
theorem sw_cell2 {x y : Str} {a b : Expr} {px py pt pt2 : Pos} {kt k2} {env : PySem.Env} (h : (isLoc1 env.scope x && isLoc1 env.scope y) = false) : swappedStores [.Tuple [.Name x px, .Name y py] kt pt] (.Tuple [a, b] k2 pt2) env = pure none := by
  have kx : (env.kindOf x == some .local) = isLoc1 env.scope x := by
    show (env.scope.names.lookup x == some .local) = _
    unfold isLoc1
    cases env.scope.names.lookup x with
    | none => rfl
    | some k => cases k <;> rfl
  have ky : (env.kindOf y == some .local) = isLoc1 env.scope y := by
    show (env.scope.names.lookup y == some .local) = _
    unfold isLoc1
    cases env.scope.names.lookup y with
    | none => rfl
    | some k => cases k <;> rfl
  unfold swappedStores
  simp only [List.filterMap_cons, List.filterMap_nil, kx, ky]
  cases h1 : isLoc1 env.scope x <;> cases h2 : isLoc1 env.scope y <;> first | (rw [h1, h2] at h; cases h; done) | skip
  all_goals simp [h1, h2]
  all_goals repeat' split
  all_goals first | rfl | (simp_all; done) | skip
/-- a value that is no list and no dict -/
def cFlat (f : Env → Res D) : Env → Res D := fun ρ => do
  let d ← f ρ
  if isC d = true then .bad else .ok d
def cWhile (c : Env → Res Bool) (body : Cmd) : Cmd := whileL c body line
/-- is x stored by the comprehension behind its value -/
def lcSw (sc : Scope) (x : Str) (px : Pos) : Expr → Bool
  | .ListComp e gs scope pos => isFunK sc.kind && isLoc1 sc x && px.line == pos.line && !(scope.names.any fun (n, k) => n == x && (k == .local || k == .cell))
  | _ => false
def compS (G : GT) (N : List Str) (sc : Scope) (fr : Bool) (ce : List Nat → Bool → Expr → Option (Env → Res D)) (cb : List Nat → List Nat → List Nat → List Stmt → Option Cmd) (lv : List Stmt → List Nat → List Nat → List Nat) (O O1 Ob : List Nat) : Stmt → Option Cmd
  | .Pass _ => if sbs O1 O = true then some cNext else none
  | .Break _ => if sbs Ob O = true then some cBrk else none
  | .Continue _ => if sbs Ob O = true then some cCnt else none
  | .Return none _ => some cRetN
  | .Return (some e) _ =>
    if fr = true then
      (match e with
      | .Name x _ => if (okName x && isVis sc x) = true then (do
        let i ← ixOf N x
        if O.contains i = true then some (cRet (cSlot i)) else none) else none
      | e => if freshE G e = true then (ce [] true e).map cRet else (ce [] true e).map fun f => cRet (cFlat f))
    else (ce [] true e).map cRet
  | .Expr (.Call (.Attribute (.Name x _) m apos) [v] [] cpos) _ =>
    if (okName x && isVis sc x && notStar v && apos.endLine == cpos.line) = true then (do
      let i ← ixOf N x
      let f ← ce (ins i O1) true v
      if sbs (ins i O1) O = true then (if m = "append" then some (cAppend i f) else if m = "extend" ∧ freshE G v = true then some (cExtend i f) else none) else none) else none
  | .Expr (.Call (.Attribute (.Name x _) m apos) [] [] cpos) _ =>
    if (okName x && isVis sc x && apos.endLine == cpos.line) = true then (do
      let i ← ixOf N x
      if sbs (ins i O1) O = true then (if m = "reverse" then some (cRev i) else none) else none) else none
  | .Raise _ _ _ => some fun _ => .bad
  | .Expr e _ => if (notLC e && sbs O1 O) = true then (ce O1 true e).map cDrop else none
  | .Assign [.Name x px] e _ => if (okName x && isLoc sc x && (notLC e || lcSw sc x px e || (isLC e && !isLoc1 sc x))) = true then (do
      let i ← ixOf N x
      if O1.contains i = true then
        (if (freshE G e && sbs (O1.filter (· != i)) O && sbs O1 (i :: O1.filter (· != i))) = true then (ce (O1.filter (· != i)) true e).map fun f => cAsg false [i] f else none)
      else if sbs O1 O = true then (ce O1 true e).map fun f => cAsg false [i] f else none) else none
  | .Assign [.Tuple [.Name x px, .Name y py] kt pt] (.Tuple [a, b] k2 pt2) _ =>
    if (okName x && okName y && isLoc sc x && isLoc sc y && sbs O1 O && notStar a && notStar b && isFunK sc.kind && !(x == y)) = true then (do
      let i ← ixOf N x
      let j ← ixOf N y
      let f ← ce O1 true a
      let h ← ce O1 true b
      if (!O1.contains i && !O1.contains j && !(i == j)) = true then
        (if (isLoc1 sc x && isLoc1 sc y) = true then
          (if (py.line == px.line && !(foldedForSure 8 a && foldedForSure 8 b) && !(constantsAlone 8 a && constantsAlone 8 b)) = true then some (cPar [i, j] [f, h])
          else if (foldedForSure 8 a && foldedForSure 8 b) = true then some (cAsg true [i, j] (cTup [f, h])) else none)
        else some (cAsg true [i, j] (cTup [f, h]))) else none) else none
  | .Assign [.Tuple ts kt pt] e _ => if (sbs O1 O && notTup e) = true then (do
      let (tup, own) ← tgIx N (.Tuple ts kt pt)
      let f ← ce O1 true e
      if own.all (fun p => isLoc sc p.1 && !O1.contains p.2) = true then some (cAsg tup (own.map (·.2)) f) else none) else none
  | .Assign [.Subscript (.Name x _) k _] v _ => if (okName x && isVis sc x && notSl k) = true then (do
      let i ← ixOf N x
      let fv ← ce (ins i O1) true v
      let fk ← ce (ins i O1) false k
      if sbs (ins i O1) O = true then some (cSetI i fk fv) else none) else none
  | .If c a b _ => if notIf c = true then (do
      let fc ← ce O true c
      let fa ← cb O O1 Ob a
      let fb ← cb O O1 Ob b
      some (cIfS (cB fc) fa fb)) else none
  | .For tg iter body [] _ => do
      let (tup, own) ← tgIx N tg
      let L := uni (lv body O1 O1) O1
      let L := uni (lv body L L) L
      let src ← compI G (ce L) sc false (isTup tg) iter
      let fb ← cb L L L body
      if (sbs O1 L && sbs L O && own.all (fun p => isLoc sc p.1 && !L.contains p.2) && notSet iter) = true then some (cFor tup (own.map (·.2)) src fb) else none
  | .While c body [] _ => do
      let L := uni (lv body O1 O1) O1
      let L := uni (lv body L L) L
      let fc ← ce L true c
      let fb ← cb L L L body
      if (sbs O1 L && sbs L O && notIf c) = true then some (cWhile (cB fc) fb) else none
  | _ => none
section
variable (fn : Nat → List D → Res D) (G : GT) (N : List Str) (fr : Bool)
def compB : Nat → Scope → List Nat → List Nat → List Nat → List Stmt → Option Cmd
  | 0, _, _, _, _, _ => none
  | n + 1, sc, O, O1, Ob, ss => match ss with
    | [] => if sbs O1 O = true then some cNext else none
    | s :: r => do
      let a ← compS G N sc fr (fun O esc e => compE fn G N n sc O esc e) (fun O O1 Ob b => compB n sc O O1 Ob b) (fun b O1 Ob => live N fr n b O1 Ob) O (live N fr n r O1 Ob) Ob s
      let b ← compB n sc (live N fr n r O1 Ob) O1 Ob r
      some (cSeqS a b)
end
section
variable {G : GT} {N : List Str} {k : Nat} {fn : Nat → List D → Res D}
variable {X : Cx} {W : WX} {F0 H0 : Hp} {sc : Scope} {O O1 Ob : List Nat} {fr : Bool}
theorem lcSw_ok {x : Str} {px : Pos} {e : Expr} (hs : X.env.scope = sc) (h : (notLC e || lcSw sc x px e || (isLC e && !isLoc1 sc x)) = true) : (∀ l, swapsWith e (some (.Name x px)) l X.env = pure false) ∨ (isLoc1 sc x = true ∧ ∃ elt gs scope pos, e = .ListComp elt gs scope pos ∧ ∀ l, swapsWith e (some (.Name x px)) l X.env = pure true) := by
  simp only [Bool.or_eq_true, Bool.and_eq_true, Bool.not_eq_true'] at h
  rcases h with (h | h) | ⟨h, h2⟩
  · exact .inl fun l => sw_ns h _ _ _
  · right
    unfold lcSw at h
    split at h
    · rename_i elt gs scope pos
      simp only [Bool.and_eq_true, Bool.not_eq_true'] at h
      obtain ⟨⟨⟨h1, h2⟩, h3⟩, h4⟩ := h
      refine ⟨h2, elt, gs, scope, pos, rfl, fun l => sw_true (hs ▸ ?_) (hs ▸ isLoc1_ok h2) h3 h4⟩
      unfold isFunK at h1
      split at h1
      · assumption
      · cases h1
    · cases h
  · subst hs
    exact .inl fun l => sw_cell h h2 l
theorem xO_of_xE {f : Env → Res D} (σ : St) (H : Hp) (Q : VK) (h : xE X W F0 H0 O f σ H Q) : xO X W F0 H0 O f σ H Q := by
  obtain ⟨ρ, F, r, q⟩ := h
  exact ⟨ρ, F, r, q.imp fun d _ k v F' H' g n => by
    obtain ⟨F2, g2, n2⟩ := n.dn g
    exact k v F2 H' g2 n2⟩
theorem lc_shape {n : Nat} {esc : Bool} {elt : Expr} {gs : List Comprehension} {scope : Scope} {pos : Pos} {f : Env → Res D} (h : compE fn G N (n + 1) sc O esc (.ListComp elt gs scope pos) = some f) : ∃ tg iter ifs, gs = [⟨tg, iter, ifs, 0⟩] := by
  cases gs with
  | nil => simp only [compE] at h; cases h
  | cons g r =>
    obtain ⟨tg, iter, ifs, asy⟩ := g
    cases r with
    | cons _ _ => simp only [compE] at h; cases h
    | nil =>
      have ha : asy = 0 := by
        simp only [compE] at h
        exact (ite_some h).1
      subst ha
      exact ⟨_, _, _, rfl⟩
/-- name = [.. for .. in ..] -/
theorem LcP.set {elt tg iter : Expr} {ifs : List Expr} {scope : Scope} {f : Env → Res D} {pos py spos : Pos} {i : Nat} {y : Str} (hc : X.calm = true) (hN : X.N.Nodup) (p : LcP G X W F0 H0 O elt tg iter ifs scope f)
    (hy : X.N[i]? = some y) (hyl : X.env.scope.names.lookup y = some .local) (hsw : swapsWith (.ListComp elt [⟨tg, iter, ifs, 0⟩] scope pos) (some (.Name y py)) spos.line X.env = pure true) :
    PS X (.Assign [.Name y py] (.ListComp elt [⟨tg, iter, ifs, 0⟩] scope pos) spos) (tAsg (xO X W F0 H0 O f) (gName i)) := by
  obtain ⟨own, tup, src, tt, fe, rfl, h1, h2, h3, h4, h5, h6⟩ := p.ex
  exact PS.of (ps_setLc hc hN hy hyl hsw h1 h2 h3 h4 h5 (folded_ns h6 _)) fun D σ H h => lc_rd (fun i hi => hi) σ H _ h
/-- name = e, by the reading that e has -/
theorem set_own {n : Nat} {e : Expr} {f : Env → Res D} {px pos : Pos} {i : Nat} {x : Str} (o : XOk X G N sc k fn) (tk : Takes X W) (h : compE fn G N n sc O true e = some f) (hi : N[i]? = some x) (hfn : ∀ y, X.fn y = true) (hl : isLoc sc x = true) (hs : (notLC e || lcSw sc x px e || (isLC e && !isLoc1 sc x)) = true)
    (hf : freshE G e = true) : PS X (.Assign [.Name x px] e pos) (tAsg (xO X W F0 H0 O f) (gName i)) := by
  have hx : Loc X.env.scope x := by rw [o.sc]; exact isLoc_ok hl
  have hN : X.N[i]? = some x := by rw [o.n]; exact hi
  have nd : X.N.Nodup := by rw [o.n]; exact o.nd
  rcases lcSw_ok o.sc hs with h1 | ⟨hl1, elt, gs, scope, p, rfl, h1⟩
  · exact ps_set nd hN hx ((compE_ok n X W F0 H0 sc O true e f o tk h).own hf) (h1 _) (.inl (hfn _))
  · cases n with
    | zero => cases h
    | succ n =>
      obtain ⟨tg, iter, ifs, rfl⟩ := lc_shape h
      exact LcP.set o.calm nd (lc_parts o tk (fun X W F0 H0 sc O esc e f o tk h => compE_ok n X W F0 H0 sc O esc e f o tk h) h) hN (by rw [o.sc]; exact isLoc1_ok hl1) (h1 _)
theorem set_kept {n : Nat} {e : Expr} {f : Env → Res D} {px pos : Pos} {i : Nat} {x : Str} (o : XOk X G N sc k fn) (tk : Takes X W) (h : compE fn G N n sc O true e = some f) (hi : N[i]? = some x) (hfn : ∀ y, X.fn y = true) (hl : isLoc sc x = true) (hs : (notLC e || lcSw sc x px e || (isLC e && !isLoc1 sc x)) = true)
    (ho : i ∉ O) : PS X (.Assign [.Name x px] e pos) (xS X W F0 H0 O O Ob fr (cAsg false [i] f)) := by
  have hx : Loc X.env.scope x := by rw [o.sc]; exact isLoc_ok hl
  have hN : X.N[i]? = some x := by rw [o.n]; exact hi
  have nd : X.N.Nodup := by rw [o.n]; exact o.nd
  rcases lcSw_ok o.sc hs with h1 | ⟨hl1, elt, gs, scope, p, rfl, h1⟩
  · exact PS.of (ps_set nd hN hx ((compE_ok n X W F0 H0 sc O true e f o tk h).kept rfl) (h1 _) (.inl (hfn _))) fun E σ H q => name_rd ho σ H E q
  · cases n with
    | zero => cases h
    | succ n =>
      obtain ⟨tg, iter, ifs, rfl⟩ := lc_shape h
      exact PS.of (LcP.set o.calm nd (lc_parts o tk (fun X W F0 H0 sc O esc e f o tk h => compE_ok n X W F0 H0 sc O esc e f o tk h) h) hN (by rw [o.sc]; exact isLoc1_ok hl1) (h1 _)) fun E σ H q => xO_of_xE σ H _ (name_rd ho σ H E q)
theorem nodup_ix {N : List Str} (hN : N.Nodup) {i j : Nat} {x y : Str} (hi : N[i]? = some x) (hj : N[j]? = some y) (h : x ≠ y) : i ≠ j := fun e => by
  subst e; rw [hi] at hj; cases hj; exact h rfl
end
end Ev

set_option Elab.async false
set_option linter.all false
set_option maxRecDepth 100000
set_option maxHeartbeats 8000000
/-! The evaluator, part M: compiled statements are right. -/
namespace Ev
open PySem L2
section
variable {G : GT} {N : List Str} {k : Nat} {fn : Nat → List D → Res D}
variable {X : Cx} {W : WX} {F0 H0 : Hp} {sc : Scope} {O O1 Ob : List Nat} {fr : Bool}
/-- a value of no kind that can be changed -/
theorem ps_retF {e : Expr} {f : Env → Res D} {pos : Pos} (he : PE X e (xE X W F0 H0 [] f)) : PS X (.Return (some e) pos) (xS X W F0 H0 O O1 Ob true (cRet (cFlat f))) :=
  PS.owners (O' := []) (PS.of (ps_ret he) fun E σ H ⟨ρ, F, rel, q⟩ => ⟨ρ, F, rel, (RQ.seq (FQ.of rel.s0 q)).imp fun d _ q1 v F' H' g n => by
    cases hc : isC d with
    | true => rw [hc] at q1; exact False.elim q1
    | false =>
      rw [hc] at q1
      exact (show FQ X.K X.mg W F0 H0 O1 Ob true E F (.ret d) from q1) v F' H' (rel.gr.trans g) (by rw [if_pos rfl, Owv.flat hc]; exact n)⟩) fun k h => absurd h (by simp)
theorem attr_base {x : Str} {p : Pos} (m : Str) (env : PySem.Env) (w : Sem Value) : attributeBase (.Name x p) m env w = w := rfl
theorem assign_sub {o i : Expr} {pos : Pos} {env : PySem.Env} (h : notSl i = true) (v : Value) : assign (.Subscript o i pos) env v = (do
      let ov ← holding [v] (eval o env)
      let iv ← holding [v, ov] (eval i env)
      standAt pos
      holding [v, ov, iv] (setItem ov iv v)
      release [v, ov, iv] []) := by
  cases i <;> first | rfl | (cases h; done)
theorem few1 {e : Expr} (h : notStar e = true) (env : PySem.Env) (pos : Pos) : ((backTo pos (starEach [e] env)).all (fun x => !x.1) && (backToKw pos (keywordEach [] env)).all (fun x => x.1.isSome)
      && decide ([e].length + ([] : List Keyword).length + (if ([] : List Keyword).isEmpty then 0 else 1) < 30)) = true := by
  rw [starEach_ns h]; rfl
theorem own_names {X : Cx} (hfn : ∀ y, X.fn y = true) (hs : X.env.scope = sc) {own : List (Str × Nat)} {L : List Nat} (h : own.all (fun p => isLoc sc p.1 && !L.contains p.2) = true) :
    (∀ p ∈ own, Loc X.env.scope p.1 ∧ (X.fn p.1 = true ∨ X.env.scope.names.lookup p.1 = some .local)) ∧ ∀ p ∈ own, p.2 ∉ L := by
  have q := fun p hp => Bool.and_eq_true _ _ |>.mp (List.all_eq_true.mp h p hp)
  refine ⟨fun p hp => ?_, fun p hp => ?_⟩
  · have := isLoc_ok (q p hp).1
    rw [hs]
    exact ⟨this, .inl (hfn _)⟩
  · have := (q p hp).2
    simpa using this
theorem compS_ok {n : Nat} {cb : List Nat → List Nat → List Nat → List Stmt → Option Cmd} {lv : List Stmt → List Nat → List Nat → List Nat} (o : XOk X G N sc k fn) (tk : Takes X W) (hfn : ∀ y, X.fn y = true) (po : PassesOwn (model X.prog X.w) X.A X.env X.xe)
    (ihb : ∀ O O1 Ob b f, cb O O1 Ob b = some f → PSs X b (xS X W F0 H0 O O1 Ob fr f)) {st : Stmt} {f : Cmd} (h : compS G N sc fr (fun O esc e => compE fn G N n sc O esc e) cb lv O O1 Ob st = some f) : PS X st (xS X W F0 H0 O O1 Ob fr f) := by
  have ih := fun O esc e f z => compE_ok n X W F0 H0 sc O esc e f o tk z
  have nd : X.N.Nodup := by rw [o.n]; exact o.nd
  have hc := o.calm
  have hu := o.hu
  have nm : ∀ {x i}, ixOf N x = some i → X.N[i]? = some x := fun z => by rw [o.n]; exact ixOf_get z
  have vi : ∀ {x}, isVis sc x = true → Vis X.env.scope x := fun z => by rw [o.sc]; exact isVis_vis z
  have mi : ∀ {i : Nat} {O : List Nat}, i ∈ ins i O := fun {i O} => by
    unfold ins
    split
    · rename_i z; simpa using z
    · exact List.mem_cons_self
  have si : ∀ {i : Nat} {O : List Nat}, ∀ k ∈ O, k ∈ ins i O := fun {i O} k hk => by
    unfold ins
    split
    · exact hk
    · exact List.mem_cons_of_mem _ hk
  unfold compS at h
  split at h
  · obtain ⟨h1, h⟩ := ite_some h
    cases h
    exact PS.owners ps_passX (sbs_ok h1)
  · obtain ⟨h1, h⟩ := ite_some h
    cases h
    exact ps_brkX (sbs_ok h1)
  · obtain ⟨h1, h⟩ := ite_some h
    cases h
    exact ps_cntX (sbs_ok h1)
  · cases h
    exact ps_retNX
  · rename_i e pos
    cases fr with
    | false =>
      rw [if_neg Bool.false_ne_true] at h
      obtain ⟨g, e1, rfl⟩ := Option.map_eq_some_iff.mp h
      exact ps_retX ((ih [] true e g e1).kept rfl)
    | true =>
      rw [if_pos rfl] at h
      split at h
      · obtain ⟨h1, h⟩ := ite_some h
        obtain ⟨i, e1, h⟩ := obind h
        obtain ⟨h2, h⟩ := ite_some h
        cases h
        simp only [Bool.and_eq_true] at h1
        obtain ⟨d1, d2, d3⟩ := okName_dbg h1.1
        exact ps_retOwn (by simpa using h2) (nm e1) (vi h1.2) d1 d2
      · split at h
        · rename_i hf
          obtain ⟨g, e1, rfl⟩ := Option.map_eq_some_iff.mp h
          exact ps_retO ((ih [] true _ g e1).own hf)
        · obtain ⟨g, e1, rfl⟩ := Option.map_eq_some_iff.mp h
          exact ps_retF ((ih [] true _ g e1).kept rfl)
  · rename_i x p m apos v cpos pos
    obtain ⟨h1, h⟩ := ite_some h
    simp only [Bool.and_eq_true] at h1
    obtain ⟨⟨⟨h2, h3⟩, h4⟩, h5⟩ := h1
    obtain ⟨i, e1, h⟩ := obind h
    obtain ⟨g, e2, h⟩ := obind h
    obtain ⟨h6, h⟩ := ite_some h
    obtain ⟨d1, d2, d3⟩ := okName_dbg h2
    split at h
    · rename_i hm
      cases h
      subst hm
      exact PS.after (PS.owners (PS.of (ps_expr (pe_bm PySem.F.plainAttrs_list PySem.F.slot_list_append PySem.F.type_list_append mt_append (pe_var (nm e1) (vi h3) d1 d2) (pa_cons ((ih _ true v g e2).kept rfl) pa_nil (starEach_ns h4 _ _)) (attr_base _ _ _) (few1 h4 _ _) h5 (starEach_ns h4 _ _) rfl) rfl) fun E σ H q => app_rd mi σ H E q) (sbs_ok h6)) si
    · obtain ⟨hm, h⟩ := ite_some h
      cases h
      obtain ⟨hm, hf⟩ := hm
      subst hm
      exact PS.after (PS.owners (PS.of (ps_expr (pe_bm PySem.F.plainAttrs_list PySem.F.slot_list_extend PySem.F.type_list_extend mt_extend (pe_var (nm e1) (vi h3) d1 d2) (pa_cons ((ih _ true v g e2).own hf) pa_nil (starEach_ns h4 _ _)) (attr_base _ _ _) (few1 h4 _ _) h5 (starEach_ns h4 _ _) rfl) rfl) fun E σ H q => ext_rd mi σ H E q) (sbs_ok h6)) si
  · rename_i x p m apos cpos pos
    obtain ⟨h1, h⟩ := ite_some h
    simp only [Bool.and_eq_true] at h1
    obtain ⟨⟨h2, h3⟩, h5⟩ := h1
    obtain ⟨i, e1, h⟩ := obind h
    obtain ⟨h6, h⟩ := ite_some h
    obtain ⟨hm, h⟩ := ite_some h
    cases h
    subst hm
    obtain ⟨d1, d2, d3⟩ := okName_dbg h2
    exact PS.after (PS.owners (PS.of (ps_expr (pe_bm0 PySem.F.plainAttrs_list PySem.F.slot_list_reverse PySem.F.type_list_reverse mt_reverse (pe_var (nm e1) (vi h3) d1 d2) (attr_base _ _ _) h5) rfl) fun E σ H q => rev_rd mi σ H E q) (sbs_ok h6)) si
  · cases h
    exact PS.of ps_never fun E σ H ⟨ρ, F, rel, q⟩ => q
  · rename_i e pos _ _
    obtain ⟨h1, h⟩ := ite_some h
    rw [Bool.and_eq_true] at h1
    obtain ⟨g, e1, rfl⟩ := Option.map_eq_some_iff.mp h
    exact PS.owners (ps_dropX ((ih _ true e g e1).kept rfl) (sw_ns h1.1 _ _ _)) (sbs_ok h1.2)
  · rename_i x px e pos
    obtain ⟨h1, h⟩ := ite_some h
    simp only [Bool.and_eq_true] at h1
    obtain ⟨⟨h1, h2⟩, h3⟩ := h1
    obtain ⟨i, e1, h⟩ := obind h
    split at h
    · obtain ⟨h4, h⟩ := ite_some h
      simp only [Bool.and_eq_true] at h4
      obtain ⟨⟨h4, h5⟩, h6⟩ := h4
      obtain ⟨g, e2, rfl⟩ := Option.map_eq_some_iff.mp h
      exact PS.both (PS.of (set_own o tk e2 (ixOf_get e1) hfn h2 h3 h4) fun E σ H q => own1_rd σ H E q) h5 h6
    · rename_i h4
      obtain ⟨h5, h⟩ := ite_some h
      obtain ⟨g, e2, rfl⟩ := Option.map_eq_some_iff.mp h
      exact PS.owners (set_kept o tk e2 (ixOf_get e1) hfn h2 h3 (by simpa using h4)) (sbs_ok h5)
  · rename_i x px y py kt pt a b k2 pt2 pos
    obtain ⟨h1, h⟩ := ite_some h
    simp only [Bool.and_eq_true, Bool.not_eq_true', beq_eq_false_iff_ne] at h1
    obtain ⟨⟨⟨⟨⟨⟨⟨⟨n1, n2⟩, l1⟩, l2⟩, so⟩, sa⟩, sb⟩, hf⟩, hxy⟩ := h1
    obtain ⟨i, e1, h⟩ := obind h
    obtain ⟨j, e2, h⟩ := obind h
    obtain ⟨fa, e3, h⟩ := obind h
    obtain ⟨fb, e4, h⟩ := obind h
    obtain ⟨h1, h⟩ := ite_some h
    simp only [Bool.and_eq_true, Bool.not_eq_true', beq_eq_false_iff_ne, List.contains_eq_mem, decide_eq_false_iff_not] at h1
    obtain ⟨⟨io, jo⟩, ij⟩ := h1
    have pa : PA X [a, b] (xA X W F0 H0 O1 (cs [fa, fb])) := pa_consE ((ih _ true a fa e3).kept rfl) (pa_consE ((ih _ true b fb e4).kept rfl) pa_nilE (starEach_ns sb _ _)) (starEach_ns sa _ _)
    have hl : ∀ p ∈ [(x, i), (y, j)], Loc X.env.scope p.1 ∧ (X.fn p.1 = true ∨ X.env.scope.names.lookup p.1 = some .local) := fun p hp => by
      simp only [List.mem_cons, List.not_mem_nil, or_false] at hp
      rcases hp with rfl | rfl
      · exact ⟨by rw [o.sc]; exact isLoc_ok l1, .inl (hfn _)⟩
      · exact ⟨by rw [o.sc]; exact isLoc_ok l2, .inl (hfn _)⟩
    have tg : PG X (.Tuple [.Name x px, .Name y py] kt pt) (xG X F0 H0 O1 true ([(x, i), (y, j)].map (·.2))) := by
      refine tg_ok (N := N) o.n o.nd hc ?_ hl fun p hp => ?_
      · simp only [tgIx, namesIx, e1, e2, n1, n2]; rfl
      · simp only [List.mem_cons, List.not_mem_nil, or_false] at hp
        rcases hp with rfl | rfl
        · exact io
        · exact jo
    split at h
    · rename_i hloc
      rw [Bool.and_eq_true] at hloc
      have hx : X.env.scope.names.lookup x = some .local := by rw [o.sc]; exact isLoc1_ok hloc.1
      have hy : X.env.scope.names.lookup y = some .local := by rw [o.sc]; exact isLoc1_ok hloc.2
      split at h
      · rename_i h2
        cases h
        simp only [Bool.and_eq_true, Bool.not_eq_true', beq_eq_false_iff_ne] at h2
        obtain ⟨⟨h2, h3⟩, h4⟩ := h2
        exact PS.owners (PS.of (ps_par hc nd (nm e1) (nm e2) ij hx hy pa (sw_par (by rw [o.sc]; exact hf) hx hy h2 hxy sa sb h3 h4) rfl) fun E σ H q => par_rd io jo rfl σ H E q) (sbs_ok so)
      · obtain ⟨h2, h⟩ := ite_some h
        cases h
        exact PS.owners (ps_asgX (pe_tupE pa) tg rfl (sw_fold (by simp only [List.all_cons, List.all_nil, Bool.and_true]; exact h2)) rfl) (sbs_ok so)
    · rename_i hloc
      cases h
      exact PS.owners (ps_asgX (pe_tupE pa) tg rfl (sw_cell2 (by rw [o.sc]; simpa using hloc)) rfl) (sbs_ok so)
  · rename_i ts kt pt e pos _
    obtain ⟨h1, h⟩ := ite_some h
    rw [Bool.and_eq_true] at h1
    obtain ⟨⟨tup, own⟩, e1, h⟩ := obind h
    obtain ⟨g, e2, h⟩ := obind h
    obtain ⟨h2, h⟩ := ite_some h
    cases h
    obtain ⟨q1, q2⟩ := own_names (X := X) hfn o.sc h2
    exact PS.owners (ps_asgX ((ih _ true e g e2).kept rfl) (tg_ok (N := N) o.n o.nd hc e1 q1 q2) (sw_tup (es := ts) (kk := kt) (p := pt) pos.line X.env) (swst_nt h1.2 _) rfl) (sbs_ok h1.1)
  · rename_i x p kx pp v pos
    obtain ⟨h1, h⟩ := ite_some h
    simp only [Bool.and_eq_true] at h1
    obtain ⟨⟨h1, h2⟩, h3⟩ := h1
    obtain ⟨i, e1, h⟩ := obind h
    obtain ⟨fv, e2, h⟩ := obind h
    obtain ⟨fk, e3, h⟩ := obind h
    obtain ⟨h4, h⟩ := ite_some h
    cases h
    obtain ⟨d1, d2, d3⟩ := okName_dbg h1
    exact PS.after (PS.owners (PS.of (ps_asg ((ih _ true v fv e2).kept rfl) (pg_sub (pe_var (nm e1) (vi h2) d1 d2) (ih _ false kx fk e3).read (set_X (by omega)) (assign_sub h3)) (sw_sub (o := .Name x p) (i := kx) (p := pp) pos.line X.env) (by cases v <;> rfl) rfl) fun E σ H q => setI_rd mi σ H E q) (sbs_ok h4)) si
  · rename_i c a b pos
    obtain ⟨h1, h⟩ := ite_some h
    obtain ⟨fc, e1, h⟩ := obind h
    obtain ⟨fa, e2, h⟩ := obind h
    obtain ⟨fb, e3, h⟩ := obind h
    cases h
    exact ps_ifX ((ih _ true c fc e1).test h1 rfl) (ihb _ _ _ _ _ e2) (ihb _ _ _ _ _ e3)
  · rename_i tg iter body pos
    obtain ⟨⟨tup, own⟩, e1, h⟩ := obind h
    obtain ⟨src, e2, h⟩ := obind h
    obtain ⟨fb, e3, h⟩ := obind h
    obtain ⟨h1, h⟩ := ite_some h
    cases h
    simp only [Bool.and_eq_true] at h1
    obtain ⟨⟨⟨h1, h2⟩, h3⟩, h4⟩ := h1
    obtain ⟨q1, q2⟩ := own_names (X := X) hfn o.sc h3
    exact PS.owners (PS.of (ps_for po hc (tgIx_tup e1 ▸ compI_ok o (fun esc e f z => ih _ esc e f z) e2) (tg_ok (N := N) o.n o.nd hc e1 q1 q2) (ihb _ _ _ _ _ e3) (folded_ns h4 _)) fun E σ H q => for_rd (sbs_ok h1) σ H E q) (sbs_ok h2)
  · rename_i c body pos
    obtain ⟨fc, e1, h⟩ := obind h
    obtain ⟨fb, e2, h⟩ := obind h
    obtain ⟨h1, h⟩ := ite_some h
    cases h
    simp only [Bool.and_eq_true] at h1
    obtain ⟨⟨h1, h2⟩, h3⟩ := h1
    exact PS.owners (PS.of (ps_while po ((ih _ true c fc e1).test h3 rfl) (ihb _ _ _ _ _ e2)) fun E σ H q => while_rd (sbs_ok h1) σ H E q) (sbs_ok h2)
  · cases h
theorem compB_ok (o : XOk X G N sc k fn) (tk : Takes X W) (hfn : ∀ y, X.fn y = true) (po : PassesOwn (model X.prog X.w) X.A X.env X.xe) : ∀ (n : Nat) (O O1 Ob : List Nat) (ss : List Stmt) (f : Cmd), compB fn G N fr n sc O O1 Ob ss = some f → PSs X ss (xS X W F0 H0 O O1 Ob fr f) := by
  intro n
  induction n with
  | zero => intro O O1 Ob ss f h; cases h
  | succ n ih =>
    intro O O1 Ob ss f h
    simp only [compB] at h
    split at h
    · obtain ⟨h1, h⟩ := ite_some h
      cases h
      exact PSs.after pss_nilX (sbs_ok h1)
    · obtain ⟨a, e1, h⟩ := obind h
      obtain ⟨b, e2, h⟩ := obind h
      cases h
      exact pss_consX (compS_ok o tk hfn po (fun O O1 Ob b f z => ih O O1 Ob b f z) e1) (ih _ _ _ _ _ e2)
end
end Ev

set_option Elab.async false
set_option linter.all false
set_option maxRecDepth 100000
set_option maxHeartbeats 8000000
/-! The evaluator, part N: defs. -/
namespace Ev
open PySem L2

/-- a def of the text -/
structure DefD where
  name : Str
  st : Stmt
  ps : List Str
  N : List Str
def startE (m n : Nat) (as : List D) : Env := as.map some ++ List.replicate (n - m) none
def runF (m n : Nat) (c : Cmd) (as : List D) : Res D := if as.length = m then (match c (startE m n as) with
  | .next _ => .ok .none
  | .ret d => .ok d
  | .exc x => .exc x
  | _ => .bad) else .bad
def cmdF (fn : Nat → List D → Res D) (G : GT) (d : DefD) : Option Cmd := compB fn G d.N (G.frs.contains d.name) 200 (defScope d.st) [] [] [] (defBody d.st)
def runO (m n : Nat) (c : Option Cmd) (as : List D) : Res D := match c with
  | some c => runF m n c as
  | none => .bad
def defF (fn : Nat → List D → Res D) (G : GT) (d : DefD) (as : List D) : Res D := runO d.ps.length d.N.length (cmdF fn G d) as
def evF (T : List DefD) (G : GT) : Nat → Nat → List D → Res D
  | 0 => fun _ _ => .bad
  | n + 1 => fun i as => match T[i]? with
    | some d => defF (evF T G n) G d as
    | none => .bad
/-- what is known of the module behind the top -/
structure ModOk (K : PySem.W.Frag) (mg : Str → Option Value) (T : List DefD) (G : GT) (fa : Nat → Addr) (fd : Nat → FuncData) : Prop where
  defs : ∀ i d, T[i]? = some d → Fun K d.name d.name d.st (fa i) (fd i) ∧ mg d.name = some (.ref (fa i)) ∧ Binds K (fd i) d.ps [] ∧ FnScope d.N d.ps (defScope d.st)
  fns : ∀ x i, G.fns.lookup x = some i → ∃ d, T[i]? = some d ∧ d.name = x
  consts : ∀ x d, G.consts.lookup x = some d → ∃ u v, mg x = some u ∧ scV d = some v ∧ RelV v u
  bis : ∀ x, G.bis.contains x = true → mg x = none
theorem defF_len {fn : Nat → List D → Res D} {G : GT} {d : DefD} {as : List D} (h : as.length ≠ d.ps.length) : defF fn G d as = .bad := by
  unfold defF
  cases cmdF fn G d with
  | none => rfl
  | some c => exact if_neg h
theorem evF_len {T : List DefD} {G : GT} {n i : Nat} {d : DefD} {as : List D} (hd : T[i]? = some d) (h : as.length ≠ d.ps.length) : evF T G n i as = .bad := by
  cases n with
  | zero => rfl
  | succ n =>
    show (match T[i]? with
    | some d => defF (evF T G n) G d as
    | none => .bad) = Res.bad
    rw [hd]
    exact defF_len h
theorem start_rel {K : PySem.W.Frag} {F H : Hp} {N : List Str} {vs : List V} {as : List D} (s : Same F H) (n : DnL K F vs as) : Rel K F H [] (startE as.length N.length as) (L2.start N vs) F H := by
  have hl := n.length
  have get : ∀ (i : Nat) (d : D), (startE as.length N.length as)[i]? = some (some d) → as[i]? = some d := fun i d h => by
    unfold startE at h
    by_cases z : i < as.length
    · rw [List.getElem?_append_left (by simpa using z), List.getElem?_map] at h
      cases e : as[i]? with
      | none => rw [e] at h; cases h
      | some x => rw [e] at h; cases h; rfl
    · rw [List.getElem?_append_right (by simp; omega), List.getElem?_replicate] at h
      split at h <;> cases h
  refine ⟨by unfold startE L2.start; simp [hl], s, Same.refl _, Same.refl _, fun a o h => .inl h, fun i d _ h => ?_, fun i d h => absurd h (by simp), fun i j d e a h => absurd h (by simp)⟩
  obtain ⟨v, e1, e2⟩ := n.get (get i d h)
  refine ⟨v, ?_, e2⟩
  unfold L2.start
  have : i < vs.length := (List.getElem?_eq_some_iff.mp e1).1
  rw [List.getElem?_append_left (by simpa using this), List.getElem?_map, e1]
  rfl
theorem fns_ok {P : Program} {w : World} {K : PySem.W.Frag} {mg : Str → Option Value} {base : Heap} {T : List DefD} {G : GT} {fa : Nat → Addr} {fd : Nat → FuncData} (M : ModOk K mg T G fa fd) :
    ∀ (n i : Nat) (d : DefD), T[i]? = some d → FnOk P w K mg base (L2.CX P w) n (fa i) (fd i) d.ps (spEv K mg d.ps.length (G.frs.contains d.name) (evF T G n i)) := by
  intro n
  induction n with
  | zero =>
    intro i d hd
    exact ⟨fun vs H Q E h => h.1, fun A outer s H args us vs Q E hr he hb hv hs => by
      obtain ⟨_, as, F0, _, _, q⟩ := hs
      exact False.elim q⟩
  | succ n ih =>
    intro i d hd
    obtain ⟨hF, hm, hb, S⟩ := M.defs i d hd
    refine hF.okX S (fun vs H Q E h => h.1) fun cdv A outer s H vs Q E hr h => ?_
    obtain ⟨hl, as, F0, s0, dn, q⟩ := h
    have q : match defF (evF T G n) G d as with
      | .ok dd => ∀ v F' H', Gr F0 H F' H' → (if G.frs.contains d.name = true then Owv K H F' H' v dd else Dn K F' v dd) → Q v H'
      | .exc x => ∀ cls d H', Same H H' → ExIs K mg H' x cls d → E cls d H'
      | .bad => False := by
      have e : evF T G (n + 1) i as = defF (evF T G n) G d as := by
        show (match T[i]? with
        | some d => defF (evF T G n) G d as
        | none => .bad) = _
        rw [hd]
      rw [← e]; exact q
    unfold defF at q
    cases hc : cmdF (evF T G n) G d with
    | none => rw [hc] at q; exact False.elim q
    | some c =>
      rw [hc] at q
      have q : match runF d.ps.length d.N.length c as with
        | .ok dd => ∀ v F' H', Gr F0 H F' H' → (if G.frs.contains d.name = true then Owv K H F' H' v dd else Dn K F' v dd) → Q v H'
        | .exc x => ∀ cls d H', Same H H' → ExIs K mg H' x cls d → E cls d H'
        | .bad => False := q
      have lk : ∀ x j, G.fns.lookup x = some j → ∃ f fd ps, mg x = some (.ref f) ∧ PySem.W.keepIn K (.ref f) = true ∧ Binds K fd ps [] ∧ FnOk P w K mg base (L2.CX P w) n f fd ps (spEv K mg ps.length (G.frs.contains x) (evF T G n j)) ∧ ∀ as : List D, as.length ≠ ps.length → evF T G n j as = .bad := fun x j hx => by
        obtain ⟨d', e1, e2⟩ := M.fns x j hx
        obtain ⟨h1, h2, h3, h4⟩ := M.defs j d' e1
        refine ⟨fa j, fd j, d'.ps, e2 ▸ h2, h1.kp, h3, ?_, fun as z => evF_len e1 z⟩
        have := ih j d' e1
        rw [e2] at this
        exact this
      have o : XOk (cxOf (L2.CX P w) P w K mg base d.N d.name (defScope d.st) (fa i) cdv A outer s H E) G d.N (defScope d.st) n (evF T G n) :=
        ⟨rfl, S.nd, rfl, rfl, hr, M.consts, M.bis, lk⟩
      refine ⟨_, compB_ok (F0 := F0) (H0 := H) (fr := G.frs.contains d.name) (W := fun cls d _ H => E cls d H) o (takes_of rfl rfl rfl rfl) (fun _ => rfl) (passes_of rfl) _ _ _ _ _ _ hc, startE d.ps.length d.N.length as, F0, ?_, ?_⟩
      · have hl2 : as.length = d.ps.length := by rw [← dn.length, hl]
        rw [← hl2]
        exact start_rel s0 dn
      · unfold runF at q
        rw [if_pos (by rw [← dn.length, hl])] at q
        cases e : c (startE d.ps.length d.N.length as) with
        | next ρ =>
          rw [e] at q
          intro σ' F' H' s1 rel
          refine q .non F' H' ⟨rel.s0, rel.sf0, rel.sfh, rel.nw⟩ ?_
          cases G.frs.contains d.name <;> exact .non
        | ret dd =>
          rw [e] at q
          exact fun v F' H' g hv => q v F' H' g hv
        | brk ρ => rw [e] at q; exact False.elim q
        | cnt ρ => rw [e] at q; exact False.elim q
        | exc x =>
          rw [e] at q
          exact fun cls d' σ' H' s1 z => q cls d' H' s1 z
        | bad => rw [e] at q; exact False.elim q
end Ev

set_option Elab.async false
set_option linter.all false
set_option maxRecDepth 100000
set_option maxHeartbeats 8000000
/-! The evaluator, part O: the end of a row. -/
namespace Ev
open PySem L2

/-- one def as it stands -/
structure DefOk (K : PySem.W.Frag) (mg : Str → Option Value) (d : DefD) (f : Addr) (fd : FuncData) : Prop where
  fn : Fun K d.name d.name d.st f fd
  mgf : mg d.name = some (.ref f)
  b : Binds K fd d.ps []
  S : FnScope d.N d.ps (defScope d.st)
inductive DefsOk (K : PySem.W.Frag) (mg : Str → Option Value) : List DefD → List (Addr × FuncData) → Prop
  | nil : DefsOk K mg [] []
  | cons {d : DefD} {f : Addr} {fd : FuncData} {T : List DefD} {L : List (Addr × FuncData)} : DefOk K mg d f fd → DefsOk K mg T L → DefsOk K mg (d :: T) ((f, fd) :: L)
theorem DefsOk.get {K : PySem.W.Frag} {mg : Str → Option Value} : ∀ {T : List DefD} {L : List (Addr × FuncData)}, DefsOk K mg T L → ∀ (p0 : Addr × FuncData) i d, T[i]? = some d → DefOk K mg d (L.getD i p0).1 (L.getD i p0).2
  | _, _, .nil, p0, i, d, e => by simp at e
  | _, _, .cons h r, p0, 0, d, e => by
    simp only [List.getElem?_cons_zero, Option.some.injEq] at e
    subst e; exact h
  | _, _, .cons h r, p0, i + 1, d, e => by
    simp only [List.getElem?_cons_succ] at e
    exact r.get p0 i d e
/-- the numbers of the defs -/
def fnsOk (T : List DefD) (G : GT) : Bool := G.fns.all fun p => match T[p.2]? with
  | some d => d.name == p.1
  | none => false
theorem lookup_mem {α β : Type} [BEq α] [LawfulBEq α] {l : List (α × β)} {x : α} {i : β} (h : l.lookup x = some i) : (x, i) ∈ l := by
  induction l with
  | nil => cases h
  | cons p r ih =>
    obtain ⟨a, b⟩ := p
    rw [List.lookup_cons] at h
    split at h
    · rename_i e
      have := eq_of_beq e
      subst this
      cases h
      exact List.mem_cons_self
    · exact List.mem_cons_of_mem _ (ih h)
theorem fnsOk_get {T : List DefD} {G : GT} (h : fnsOk T G = true) : ∀ x i, G.fns.lookup x = some i → ∃ d, T[i]? = some d ∧ d.name = x := by
  intro x i e
  have := List.all_eq_true.mp h _ (lookup_mem e)
  simp only at this
  split at this
  · rename_i d hd
    exact ⟨d, hd, eq_of_beq this⟩
  · cases this
/-- constants and built-ins that stand -/
inductive ConstsOk (mg : Str → Option Value) : List (Str × D) → Prop
  | nil : ConstsOk mg []
  | cons {x : Str} {d : D} {u : Value} {v : V} {l : List (Str × D)} : mg x = some u → scV d = some v → RelV v u → ConstsOk mg l → ConstsOk mg ((x, d) :: l)
theorem ConstsOk.get {mg : Str → Option Value} : ∀ {l : List (Str × D)}, ConstsOk mg l → ∀ x d, l.lookup x = some d → ∃ u v, mg x = some u ∧ scV d = some v ∧ RelV v u
  | _, .nil, x, d, e => by cases e
  | _, .cons (x := y) h1 h2 h3 r, x, d, e => by
    rw [List.lookup_cons] at e
    split at e
    · rename_i z
      have := eq_of_beq z
      subst this
      cases e
      exact ⟨_, _, h1, h2, h3⟩
    · exact r.get x d e
inductive NonesOk (mg : Str → Option Value) : List Str → Prop
  | nil : NonesOk mg []
  | cons {x : Str} {l : List Str} : mg x = none → NonesOk mg l → NonesOk mg (x :: l)
theorem NonesOk.get {mg : Str → Option Value} : ∀ {l : List Str}, NonesOk mg l → ∀ x, l.contains x = true → mg x = none
  | _, .nil, x, e => by simp at e
  | _, .cons (x := y) h r, x, e => by
    rw [List.contains_cons, Bool.or_eq_true] at e
    rcases e with e | e
    · have := eq_of_beq e
      subst this; exact h
    · exact r.get x e
theorem mod_of {K : PySem.W.Frag} {mg : Str → Option Value} {T : List DefD} {G : GT} {L : List (Addr × FuncData)} (p0 : Addr × FuncData) (h : DefsOk K mg T L) (hf : fnsOk T G = true) (hc : ConstsOk mg G.consts) (hb : NonesOk mg G.bis) :
    ModOk K mg T G (fun i => (L.getD i p0).1) (fun i => (L.getD i p0).2) :=
  ⟨fun i d e => by
    have q := h.get p0 i d e
    exact ⟨q.fn, q.mgf, q.b, q.S⟩, fnsOk_get hf, hc.get, hb.get⟩
/-- law's promise -/
def spLaw (K : PySem.W.Frag) : Sp := fun vs H Q _ => ∃ (a : Addr) (ns : List Int), vs = [.ref a] ∧ SqL K H a (ns.map V.int) ∧ ns.length ≤ 63 ∧ (∀ z ∈ ns, Builtin.Int.intBits z ≤ 1048576) ∧ ∀ H', Q (.bl true) H'
/-- what is to be shown of the text: law answers True -/
def LawOk (T : List DefD) (G : GT) (n i : Nat) : Prop := ∀ ns : List Int, ns.length ≤ 63 → (∀ z ∈ ns, Builtin.Int.intBits z ≤ 1048576) → evF T G n i [.list (ns.map .int)] = .ok (.bool true)
theorem law_fn {P : Program} {w : World} {K : PySem.W.Frag} {mg : Str → Option Value} {base : Heap} {T : List DefD} {G : GT} {fa : Nat → Addr} {fd : Nat → FuncData} {n i : Nat} {d : DefD} {x : Str} (M : ModOk K mg T G fa fd) (hd : T[i]? = some d) (hp : d.ps = [x]) (h : LawOk T G n i) :
    FnOk P w K mg base (L2.CX P w) n (fa i) (fd i) [x] (spLaw K) := by
  have F := fns_ok (P := P) (w := w) (base := base) M n i d hd
  rw [hp] at F
  refine F.imp fun vs H Q E ⟨a, ns, e1, e2, e3, e4, e5⟩ => ?_
  subst e1
  refine ⟨rfl, [.list (ns.map .int)], H, Same.refl _, .one (.lst e2 (dn_ints ns)), ?_⟩
  rw [h ns e3 e4]
  intro v F' H' g q
  have : v = .bl true := by
    split at q
    · have q : Dn K F' v (.bool true) := q
      cases q; rfl
    · cases q; rfl
  subst this
  exact e5 H'
theorem walk_ev {l : PySem.W.OpenLaw} {q : Program} {loose : List Str} {XP : (Str → Option Value) → Heap → Prop} {YP : World → Heap → Prop} {d : DefRec} {K : Params → PySem.W.Frag} {n : Nat} {x : Str} (hr : Room n callerA) (hn : l.most = some 63) (hdf : d.params.defaults = [])
    (hY : ∀ (w : World) (h : Heap), YP w h → (K w.params).In h)
    (F : ∀ (w : World) (mg : Str → Option Value) (fa : Addr) (h : Heap), (K w.params).In h → h.Ns mainGlobals mg → mg d.name = some (.ref fa) →
      ∃ fd : FuncData, (∀ (s : Shared) (u : Value), BindsTo s fd ⟨[u], []⟩ [(x, u)]) ∧ ∀ base : Heap, (K w.params).In base → base.Ns mainGlobals mg → FnOk l.prog w (K w.params) mg base (L2.CX l.prog w) n fa fd [x] (spLaw (K w.params))) :
    PySem.W.WalkO q loose XP YP l.row.toRowW d [] (fun f vs => PySem.call f vs) :=
  L2.walk_ofB (n := 63) (k := n) (x := x) (CX := fun w => L2.CX l.prog w) (sp := fun w => spLaw (K w.params)) hn (by decide) hdf hr hY F (fun _ _ a ns hl hb _ hS => ⟨a, ns, rfl, hS, hl, hb, fun _ => rfl⟩) fun w H s e s' z => by
    obtain ⟨_, _, _, _, _, _, _, _, _, _, _, _, z⟩ := z
    exact z
end Ev

set_option Elab.async false
set_option linter.all false
set_option maxRecDepth 100000
set_option maxHeartbeats 4000000
/-! What a compiled text computes: the plain side. -/
namespace Ev
open PySem

/-- kept from being taken as a rule of unfolding -/
theorem nr {α : Sort _} {a b : α} (h : a = b) : a = b := h
def WPb {α : Type} (r : Res α) (Q : α → Prop) : Prop := match r with
  | .ok a => Q a
  | _ => False
def OP {α : Type} (o : Option α) (Q : α → Prop) : Prop := match o with
  | some a => Q a
  | none => False
def BP (d : D) (Q : Bool → Prop) : Prop := match d with
  | .bool b => Q b
  | _ => False
def IP (d : D) (Q : Int → Prop) : Prop := match d with
  | .int b => Q b
  | _ => False
def LP (d : D) (Q : List D → Prop) : Prop := match d with
  | .list b => Q b
  | _ => False
def TP (d : D) (Q : List D → Prop) : Prop := match d with
  | .tuple b => Q b
  | _ => False
def DcP (d : D) (Q : List (D × D) → Prop) : Prop := match d with
  | .dict b => Q b
  | _ => False
def slotP (ρ : Env) (i : Nat) (Q : D → Prop) : Prop := match ρ[i]? with
  | some (some d) => Q d
  | _ => False
def WFb (r : Fl) (N B C : Env → Prop) (R : D → Prop) : Prop := match r with
  | .next ρ => N ρ
  | .brk ρ => B ρ
  | .cnt ρ => C ρ
  | .ret d => R d
  | _ => False
section
variable {α β : Type} {Q : α → Prop} {ρ : Env} {P : D → Prop} {f h k : Env → Res D} {fs : List (Env → Res D)}
theorem WPb.imp {r : Res α} {Q' : α → Prop} (h : WPb r Q) (i : ∀ a, Q a → Q' a) : WPb r Q' := by
  cases r with
  | ok a => exact i a h
  | exc x => exact h
  | bad => exact h
theorem WPb.ok {r : Res α} {a : α} (h : WPb r fun x => x = a) : r = .ok a := by
  cases r with
  | ok b => exact congrArg _ h
  | exc x => exact False.elim h
  | bad => exact False.elim h
theorem b_wp_of {r : Res α} {a : α} (h : r = .ok a) (q : Q a) : WPb r Q := by rw [h]; exact q
theorem b_wp_ok (a : α) (Q : α → Prop) : WPb (.ok a) Q = Q a := rfl
theorem b_op_some (a : α) (Q : α → Prop) : OP (some a) Q = Q a := rfl
theorem b_op_none (Q : α → Prop) : OP none Q = False := rfl
theorem b_bp_bool (b : Bool) (Q : Bool → Prop) : BP (.bool b) Q = Q b := rfl
theorem b_ip_int (b : Int) (Q : Int → Prop) : IP (.int b) Q = Q b := rfl
theorem b_lp_list (b : List D) (Q : List D → Prop) : LP (.list b) Q = Q b := rfl
theorem b_tp_tup (b : List D) (Q : List D → Prop) : TP (.tuple b) Q = Q b := rfl
theorem b_slot_0 (d : D) (r : Env) (Q : D → Prop) : slotP (some d :: r) 0 Q = Q d := rfl
theorem b_slot_s (o : Option D) (r : Env) (i : Nat) (Q : D → Prop) : slotP (o :: r) (i + 1) Q = slotP r i Q := by
  unfold slotP
  rw [List.getElem?_cons_succ]
theorem b_WP_bind {r : Res β} {g : β → Res α} (Q : α → Prop) : WPb (r >>= g) Q = WPb r fun a => WPb (g a) Q := by cases r <;> rfl
theorem b_WP_ofO {o : Option α} (Q : α → Prop) : WPb (ofO o) Q = OP o Q := by cases o <;> rfl
theorem b_WP_asB {d : D} (Q : Bool → Prop) : WPb (asB d) Q = BP d Q := by cases d <;> rfl
theorem b_WP_cB (Q : Bool → Prop) : WPb (cB f ρ) Q = WPb (f ρ) fun d => BP d Q := by
  show WPb (f ρ >>= asB) Q = _
  rw [b_WP_bind]
  congr 1
  funext a
  exact b_WP_asB Q
theorem b_wp_slot (i : Nat) (Q : D → Prop) : WPb (cSlot i ρ) Q = slotP ρ i Q := by
  unfold cSlot slotP
  cases ρ[i]? with
  | none => rfl
  | some o => cases o <;> rfl
theorem b_wp_lit (d : D) (Q : D → Prop) : WPb (cLit d ρ) Q = Q d := rfl
theorem b_wp_c1 (g : D → Option D) (Q : D → Prop) : WPb (c1 g f ρ) Q = WPb (f ρ) fun a => OP (g a) Q := by
  show WPb (f ρ >>= fun a => ofO (g a)) Q = _
  rw [b_WP_bind]; congr 1; funext a; exact b_WP_ofO Q
theorem b_wp_c2 (g : D → D → Option D) (Q : D → Prop) : WPb (c2 g f h ρ) Q = WPb (f ρ) fun a => WPb (h ρ) fun b => OP (g a b) Q := by
  show WPb (f ρ >>= fun a => h ρ >>= fun b => ofO (g a b)) Q = _
  rw [b_WP_bind]; congr 1; funext a; rw [b_WP_bind]; congr 1; funext b; exact b_WP_ofO Q
theorem b_wp_nil (Q : List D → Prop) : WPb (cs [] ρ) Q = Q [] := rfl
theorem b_wp_cons (Q : List D → Prop) : WPb (cs (f :: fs) ρ) Q = WPb (f ρ) fun a => WPb (cs fs ρ) fun as => Q (a :: as) := by
  show WPb (f ρ >>= fun a => cs fs ρ >>= fun as => Res.ok (a :: as)) Q = _
  rw [b_WP_bind]; congr 1; funext a; rw [b_WP_bind]; rfl
theorem b_wp_cN (g : List D → Option D) (Q : D → Prop) : WPb (cN g fs ρ) Q = WPb (cs fs ρ) fun as => OP (g as) Q := by
  show WPb (cs fs ρ >>= fun a => ofO (g a)) Q = _
  rw [b_WP_bind]; congr 1; funext a; exact b_WP_ofO Q
theorem b_wp_and (Q : D → Prop) : WPb (cAnd f h ρ) Q = WPb (f ρ) fun d => BP d fun b => if b = true then WPb (h ρ) Q else Q (.bool false) := by
  show WPb (cB f ρ >>= fun b => if b = true then h ρ else .ok (.bool false)) Q = _
  rw [b_WP_bind, b_WP_cB]
  congr 1; funext d; congr 1; funext b
  cases b <;> rfl
theorem b_wp_or (Q : D → Prop) : WPb (cOr f h ρ) Q = WPb (f ρ) fun d => BP d fun b => if b = true then Q (.bool true) else WPb (h ρ) Q := by
  show WPb (cB f ρ >>= fun b => if b = true then .ok (.bool true) else h ρ) Q = _
  rw [b_WP_bind, b_WP_cB]
  congr 1; funext d; congr 1; funext b
  cases b <;> rfl
theorem b_wp_not (Q : D → Prop) : WPb (cNot f ρ) Q = WPb (f ρ) fun d => BP d fun b => Q (.bool !b) := by
  show WPb (cB f ρ >>= fun b => .ok (.bool !b)) Q = _
  rw [b_WP_bind, b_WP_cB]; rfl
theorem b_wp_if (Q : D → Prop) : WPb (cIf k f h ρ) Q = WPb (k ρ) fun d => BP d fun b => if b = true then WPb (f ρ) Q else WPb (h ρ) Q := by
  show WPb (cB k ρ >>= fun b => if b = true then f ρ else h ρ) Q = _
  rw [b_WP_bind, b_WP_cB]
  congr 1; funext d; congr 1; funext b
  cases b <;> rfl
theorem b_wp_tup (Q : D → Prop) : WPb (cTup fs ρ) Q = WPb (cs fs ρ) fun as => as.length ≤ line ∧ Q (.tuple as) := by
  unfold cTup
  rw [b_wp_cN]; congr 1; funext as
  split <;> simp [OP, *]
theorem b_wp_lst (Q : D → Prop) : WPb (cLst fs ρ) Q = WPb (cs fs ρ) fun as => as.length ≤ line ∧ Q (.list as) := by
  unfold cLst
  rw [b_wp_cN]; congr 1; funext as
  split <;> simp [OP, *]
theorem b_wp_chain (g g' : D → D → Option D) (Q : D → Prop) : WPb (cChain g g' f h k ρ) Q = WPb (f ρ) fun a => WPb (h ρ) fun b => OP (g a b) fun z => BP z fun t => if t = true then WPb (k ρ) fun c => OP (g' b c) Q else Q (.bool false) := by
  show WPb (f ρ >>= fun a => h ρ >>= fun b => ofO (g a b) >>= fun z => asB z >>= fun t => if t = true then (k ρ >>= fun c => ofO (g' b c)) else .ok (.bool false)) Q = _
  rw [b_WP_bind]; congr 1; funext a
  rw [b_WP_bind]; congr 1; funext b
  rw [b_WP_bind, b_WP_ofO]; congr 1; funext z
  rw [b_WP_bind, b_WP_asB]; congr 1; funext t
  cases t with
  | true =>
    show WPb (k ρ >>= fun c => ofO (g' b c)) Q = WPb (k ρ) fun c => OP (g' b c) Q
    rw [b_WP_bind]; congr 1; funext c; exact b_WP_ofO Q
  | false => rfl
theorem b_wp_isi (T : String) (Q : D → Prop) : WPb (cIsi f T ρ) Q = WPb (f ρ) fun d => Q (.bool (isiB d T)) := by
  unfold cIsi
  rw [b_wp_c1]; rfl
theorem b_wp_part0 (Q : Option Int → Prop) : WPb (cPart none ρ) Q = Q none := rfl
theorem b_wp_part (Q : Option Int → Prop) : WPb (cPart (some f) ρ) Q = WPb (f ρ) fun d => IP d fun i => Q (some i) := by
  show WPb (f ρ >>= fun d => match d with | .int i => .ok (some i) | _ => .bad) Q = _
  rw [b_WP_bind]; congr 1; funext d
  cases d <;> rfl
theorem b_wp_sl (l u : Option (Env → Res D)) (Q : D → Prop) : WPb (cSl f l u ρ) Q = WPb (f ρ) fun a => WPb (cPart l ρ) fun lo => WPb (cPart u ρ) fun hi => OP (slD a lo hi) Q := by
  show WPb (f ρ >>= fun a => cPart l ρ >>= fun lo => cPart u ρ >>= fun hi => ofO (slD a lo hi)) Q = _
  rw [b_WP_bind]; congr 1; funext a; rw [b_WP_bind]; congr 1; funext lo; rw [b_WP_bind]; congr 1; funext hi; exact b_WP_ofO Q
theorem b_wp_call (fn : Nat → List D → Res D) (i : Nat) (Q : D → Prop) : WPb (cCall fn i fs ρ) Q = WPb (cs fs ρ) fun as => WPb (fn i as) Q := by
  show WPb (cs fs ρ >>= fun as => fn i as) Q = _
  rw [b_WP_bind]
theorem b_wp_callB (fn : Nat → List D → Res D) (fr : Bool) (i : Nat) (Q : D → Prop) : WPb (cCallB fn fr i fs ρ) Q = WPb (cs fs ρ) fun as => WPb (fn i as) fun d => pureR fr d = true ∧ Q d := by
  show WPb (cs fs ρ >>= fun as => fn i as >>= fun d => if pureR fr d = true then .ok d else .bad) Q = _
  rw [b_WP_bind]; congr 1; funext as
  rw [b_WP_bind]; congr 1; funext d
  by_cases h : pureR fr d = true
  · rw [if_pos h]; exact propext ⟨fun q => ⟨h, q⟩, fun q => q.2⟩
  · rw [if_neg h]; exact propext ⟨fun q => False.elim q, fun q => (h q.1).elim⟩
theorem b_wp_get {f h : Env → Res D} (Q : D → Prop) : WPb (cGet f h ρ) Q = WPb (f ρ) fun a => DcP a fun es => WPb (h ρ) fun b => OP (dgetD (.dict es) b) Q := by
  show WPb (f ρ >>= fun a => asDc a >>= fun a => h ρ >>= fun b => ofO (dgetD a b)) Q = _
  rw [b_WP_bind]; congr 1; funext a
  cases a <;> first | rfl | skip
  rename_i es
  show WPb (h ρ >>= fun b => ofO (dgetD (.dict es) b)) Q = _
  rw [b_WP_bind]; congr 1; funext b; exact b_WP_ofO Q
theorem b_wp_idx {f h : Env → Res D} (Q : D → Prop) : WPb (cIdx f h ρ) Q = WPb (f ρ) fun a => TP a fun ds => WPb (h ρ) fun b => OP (idxD (.tuple ds) b) Q := by
  show WPb (f ρ >>= fun a => asTp a >>= fun a => h ρ >>= fun b => ofO (idxD a b)) Q = _
  rw [b_WP_bind]; congr 1; funext a
  cases a <;> first | rfl | skip
  rename_i es
  show WPb (h ρ >>= fun b => ofO (idxD (.tuple es) b)) Q = _
  rw [b_WP_bind]; congr 1; funext b; exact b_WP_ofO Q
theorem b_wp_seq (Q : List D → Prop) : WPb (cSeq f ρ) Q = WPb (f ρ) fun d => OP (seqOf d) Q := by
  show WPb (f ρ >>= fun d => ofO (seqOf d)) Q = _
  rw [b_WP_bind]; congr 1; funext d; exact b_WP_ofO Q
theorem b_wp_src (g : List D → Option (List D)) (Q : List D → Prop) : WPb (cSrc g fs ρ) Q = WPb (cs fs ρ) fun as => OP (g as) Q := by
  show WPb (cs fs ρ >>= fun a => ofO (g a)) Q = _
  rw [b_WP_bind]; congr 1; funext a; exact b_WP_ofO Q
end
section
variable {ρ : Env} {N B C : Env → Prop} {R : D → Prop} {f k v : Env → Res D} {fs : List (Env → Res D)} {a b : Cmd}
theorem WFb.imp {r : Fl} {N' B' C' : Env → Prop} {R' : D → Prop} (h : WFb r N B C R) (n : ∀ ρ, N ρ → N' ρ) (bb : ∀ ρ, B ρ → B' ρ) (c : ∀ ρ, C ρ → C' ρ) (rr : ∀ d, R d → R' d) : WFb r N' B' C' R' := by
  cases r with
  | next ρ => exact n ρ h
  | ret d => exact rr d h
  | brk ρ => exact bb ρ h
  | cnt ρ => exact c ρ h
  | exc x => exact h
  | bad => exact h
theorem b_WF_of {α : Type} {r : Res α} {g : α → Fl} : WFb (Fl.of r g) N B C R = WPb r fun x => WFb (g x) N B C R := by cases r <;> rfl
theorem b_wf_next : WFb (cNext ρ) N B C R = N ρ := rfl
theorem b_wf_brk : WFb (cBrk ρ) N B C R = B ρ := rfl
theorem b_wf_cnt : WFb (cCnt ρ) N B C R = C ρ := rfl
theorem b_wf_retN : WFb (cRetN ρ) N B C R = R .none := rfl
theorem b_wf_seq : WFb (cSeqS a b ρ) N B C R = WFb (a ρ) (fun ρ' => WFb (b ρ') N B C R) B C R := by
  unfold cSeqS
  cases a ρ <;> rfl
theorem b_wf_ret : WFb (cRet f ρ) N B C R = WPb (f ρ) R := b_WF_of
theorem b_wf_drop : WFb (cDrop f ρ) N B C R = WPb (f ρ) fun _ => N ρ := b_WF_of
theorem b_wf_asg (i : Nat) : WFb (cAsg false [i] f ρ) N B C R = WPb (f ρ) fun d => N (ρ.set i (some d)) := b_WF_of
theorem b_wf_asgT (is : List Nat) : WFb (cAsg true is f ρ) N B C R = WPb (f ρ) fun d => TP d fun ds => ds.length = is.length ∧ N (setAll ρ is ds) := by
  show WFb (Fl.of (f ρ) fun d => Fl.of (cTg true is d ρ) .next) N B C R = _
  rw [b_WF_of]; congr 1; funext d
  rw [b_WF_of]
  unfold cTg
  cases d <;> try rfl
  dsimp only [TP]
  split <;> simp [WPb, WFb, *]
theorem b_wf_par (is : List Nat) : WFb (cPar is fs ρ) N B C R = WPb (cs fs ρ) fun ds => N (setAll ρ is ds) := b_WF_of
theorem b_wf_if {c : Env → Res Bool} : WFb (cIfS c a b ρ) N B C R = WPb (c ρ) fun t => if t = true then WFb (a ρ) N B C R else WFb (b ρ) N B C R := by
  show WFb (Fl.of (c ρ) fun t => if t = true then a ρ else b ρ) N B C R = _
  rw [b_WF_of]; congr 1; funext t
  cases t <;> rfl
theorem b_wf_app (i : Nat) : WFb (cAppend i v ρ) N B C R = slotP ρ i fun d => LP d fun xs => WPb (v ρ) fun dv => xs.length < line ∧ N (ρ.set i (some (.list (xs ++ [dv])))) := by
  show WFb (Fl.of (cSlot i ρ) fun d => Fl.of (match d with | .list _ => .ok d | _ => (.bad : Res D)) fun _ => cApp i v ρ) N B C R = _
  rw [b_WF_of, b_wp_slot]
  unfold slotP
  cases e : ρ[i]? with
  | none => rfl
  | some o =>
    cases o with
    | none => rfl
    | some d =>
      dsimp only
      cases d <;> try rfl
      rename_i xs
      show WFb (Fl.of (v ρ) fun dv => cMut i (appG dv) ρ) N B C R = _
      rw [b_WF_of]
      show _ = WPb (v ρ) fun dv => xs.length < line ∧ N (ρ.set i (some (.list (xs ++ [dv]))))
      congr 1; funext dv
      unfold cMut
      rw [e]
      dsimp only [appG]
      split
      · rename_i d' h
        split at h
        · cases h; simp [WFb, *]
        · cases h
      · rename_i h
        split at h
        · cases h
        · simp [WFb, *]
theorem b_wf_setI (i : Nat) : WFb (cSetI i k v ρ) N B C R = WPb (v ρ) fun dv => slotP ρ i fun d => WPb (k ρ) fun dk => OP (setG dk dv d) fun d' => N (ρ.set i (some d')) := by
  show WFb (Fl.of (v ρ) fun dv => Fl.of (cSlot i ρ) fun _ => Fl.of (k ρ) fun dk => cMut i (setG dk dv) ρ) N B C R = _
  rw [b_WF_of]; congr 1; funext dv
  rw [b_WF_of, b_wp_slot]
  unfold slotP
  cases e : ρ[i]? with
  | none => rfl
  | some o =>
    cases o with
    | none => rfl
    | some d =>
      dsimp only
      rw [b_WF_of]; congr 1; funext dk
      unfold cMut
      rw [e]
      dsimp only
      split
      · rename_i d' h; rw [h]; rfl
      · rename_i h; rw [h]; rfl
/-- what a target does -/
def TgP (tup : Bool) (is : List Nat) (d : D) (ρ : Env) (Q : Env → Prop) : Prop := WPb (cTg tup is d ρ) Q
theorem b_tg_name (i : Nat) (d : D) (Q : Env → Prop) : TgP false [i] d ρ Q = Q (ρ.set i (some d)) := rfl
theorem b_tg_tup (is : List Nat) (d : D) (Q : Env → Prop) : TgP true is d ρ Q = TP d fun ds => ds.length = is.length ∧ Q (setAll ρ is ds) := by
  unfold TgP cTg
  cases d <;> try rfl
  dsimp only [TP]
  split <;> simp [WPb, *]
theorem b_forL_wf {tup : Bool} {is : List Nat} {body : Cmd} (I : Nat → Env → Prop) : ∀ (ds : List D) (m : Nat) (ρ : Env), (∀ k d ρ, ds[k]? = some d → I (m + k) ρ → TgP tup is d ρ fun ρ1 => WFb (body ρ1) (I (m + k + 1)) N (I (m + k + 1)) R) → (∀ ρ, I (m + ds.length) ρ → N ρ) → I m ρ →
    WFb (forL tup is body ds ρ) N B C R
  | [], m, ρ, h, hn, hi => hn ρ hi
  | d :: ds, m, ρ, h, hn, hi => by
    have h0 := h 0 d ρ rfl hi
    show WFb (Fl.of (cTg tup is d ρ) fun ρ1 => match body ρ1 with
      | .next ρ2 => forL tup is body ds ρ2
      | .cnt ρ2 => forL tup is body ds ρ2
      | .brk ρ2 => .next ρ2
      | r => r) N B C R
    rw [b_WF_of]
    refine WPb.imp h0 fun ρ1 h1 => ?_
    have go : ∀ ρ2, I (m + 0 + 1) ρ2 → WFb (forL tup is body ds ρ2) N B C R := fun ρ2 h2 =>
      b_forL_wf I ds (m + 1) ρ2 (fun k d ρ hk hI => by
        have := h (k + 1) d ρ (by simpa using hk) (by rw [show m + (k + 1) = m + 1 + k by omega]; exact hI)
        rw [show m + (k + 1) + 1 = m + 1 + k + 1 by omega] at this
        exact this) (fun ρ hI => hn ρ (by rw [List.length_cons, show m + (ds.length + 1) = m + 1 + ds.length by omega]; exact hI)) h2
    cases e : body ρ1 with
    | next ρ2 => rw [e] at h1; exact go ρ2 h1
    | cnt ρ2 => rw [e] at h1; exact go ρ2 h1
    | brk ρ2 => rw [e] at h1; exact h1
    | ret d => rw [e] at h1; exact h1
    | exc x => rw [e] at h1; exact h1
    | bad => rw [e] at h1; exact h1
/-- a loop by its invariant: I k holds ahead of the k-th item -/
theorem b_wf_for {tup : Bool} {is : List Nat} {src : Env → Res (List D)} {body : Cmd} (I : List D → Nat → Env → Prop)
    (h : WPb (src ρ) fun ds => I ds 0 ρ ∧ (∀ k d ρ, ds[k]? = some d → I ds k ρ → TgP tup is d ρ fun ρ1 => WFb (body ρ1) (I ds (k + 1)) N (I ds (k + 1)) R) ∧ ∀ ρ, I ds ds.length ρ → N ρ) : WFb (cFor tup is src body ρ) N B C R := by
  show WFb (Fl.of (src ρ) fun ds => forL tup is body ds ρ) N B C R
  rw [b_WF_of]
  refine WPb.imp h fun ds ⟨h1, h2, h3⟩ => ?_
  exact b_forL_wf (I ds) ds 0 ρ (fun k d ρ hk hI => by
    rw [Nat.zero_add] at hI ⊢
    exact h2 k d ρ hk hI) (fun ρ hI => h3 ρ (by rw [Nat.zero_add] at hI; exact hI)) h1
theorem b_wp_run {m n : Nat} {c : Cmd} {as : List D} {Q : D → Prop} (hl : as.length = m) (h : WFb (c (startE m n as)) (fun _ => Q .none) (fun _ => False) (fun _ => False) Q) : WPb (runF m n c as) Q := by
  unfold runF
  rw [if_pos hl]
  cases e : c (startE m n as) with
  | next ρ => rw [e] at h; exact h
  | ret d => rw [e] at h; exact h
  | brk ρ => rw [e] at h; exact h
  | cnt ρ => rw [e] at h; exact h
  | exc x => rw [e] at h; exact h
  | bad => rw [e] at h; exact h
end
/-! ### comprehensions -/
theorem b_compL_wp {i : Nat} {elt : Env → Res D} {ρ : Env} {P : D → D → Prop} : ∀ {ds : List D}, (∀ d ∈ ds, WPb (elt (ρ.set i (some d))) (P d)) → WPb (nx (compL (cTg false [i]) cYes elt (ρ.set i none) ds)) fun ys => Paired P ds ys
  | [], _ => .nil
  | d :: ds, h => by
    have ih := b_compL_wp (i := i) (elt := elt) (ρ := ρ) (P := P) (ds := ds) fun d' hd => h d' (by simp [hd])
    have h0 := h d (by simp)
    have e : cTg false [i] d (ρ.set i none) = .ok (ρ.set i (some d)) := by
      show Res.ok (setAll (ρ.set i none) [i] [d]) = _
      show Res.ok ((ρ.set i none).set i (some d)) = _
      rw [List.set_set]
    have ec : compL (cTg false [i]) cYes elt (ρ.set i none) (d :: ds) = (cTg false [i] d (ρ.set i none) >>= fun ρ1 => cYes ρ1 >>= fun b => if b = true then (elt ρ1 >>= fun y => compL (cTg false [i]) cYes elt (ρ.set i none) ds >>= fun ys => .ok (y :: ys)) else compL (cTg false [i]) cYes elt (ρ.set i none) ds) := rfl
    rw [ec, e]
    show WPb (nx (elt (ρ.set i (some d)) >>= fun y => compL (cTg false [i]) cYes elt (ρ.set i none) ds >>= fun ys => .ok (y :: ys))) _
    cases e1 : elt (ρ.set i (some d)) with
    | exc x => rw [e1] at h0; exact h0
    | bad => rw [e1] at h0; exact h0
    | ok y =>
      rw [e1] at h0
      cases e2 : compL (cTg false [i]) cYes elt (ρ.set i none) ds with
      | exc x => rw [e2] at ih; exact ih
      | bad => rw [e2] at ih; exact ih
      | ok ys => rw [e2] at ih; exact .cons h0 ih
theorem b_wp_comp {i : Nat} {src : Env → Res (List D)} {elt : Env → Res D} {ρ : Env} {Q : D → Prop} (P : D → D → Prop) (h : WPb (src ρ) fun ds => ds.length ≤ line ∧ (∀ d ∈ ds, WPb (elt (ρ.set i (some d))) (P d)) ∧ ∀ ys, Paired P ds ys → Q (.list ys)) :
    WPb (cComp [i] false [i] src cYes elt ρ) Q := by
  show WPb (src ρ >>= fun ds => if ds.length ≤ line then (nx (compL (cTg false [i]) cYes elt (wipeE ρ [i]) ds) >>= fun ys => .ok (.list ys)) else .bad) Q
  rw [b_WP_bind]
  refine h.imp fun ds ⟨h1, h2, h3⟩ => ?_
  rw [if_pos h1, b_WP_bind]
  exact (b_compL_wp h2).imp fun ys p => h3 ys p
theorem b_paired_map {g : D → D} : ∀ {ds ys : List D}, Paired (fun d y => y = g d) ds ys → ys = ds.map g
  | _, _, .nil => rfl
  | _, _, .cons h r => by rw [h, b_paired_map r]; rfl
theorem b_wp_compM {i : Nat} {src : Env → Res (List D)} {elt : Env → Res D} {ρ : Env} {Q : D → Prop} (g : D → D) (h : WPb (src ρ) fun ds => ds.length ≤ line ∧ (∀ d ∈ ds, WPb (elt (ρ.set i (some d))) fun v => v = g d) ∧ Q (.list (ds.map g))) :
    WPb (cComp [i] false [i] src cYes elt ρ) Q := b_wp_comp (fun d y => y = g d) (h.imp fun ds ⟨h1, h2, h3⟩ => ⟨h1, h2, fun ys p => by rw [b_paired_map p]; exact h3⟩)
theorem b_OP_ite {α : Type} {c : Prop} [Decidable c] {a : α} {Q : α → Prop} : OP (if c then some a else none) Q = (c ∧ Q a) := by
  by_cases h : c
  · rw [if_pos h]; exact propext ⟨fun q => ⟨h, q⟩, fun q => q.2⟩
  · rw [if_neg h]; exact propext ⟨fun q => False.elim q, fun q => absurd q.1 h⟩
/-! ### what the operators make of data -/
section
variable {Q : D → Prop}
theorem b_add_int (a b : Int) : OP (addD (.int a) (.int b)) Q = Q (.int (a + b)) := rfl
theorem b_add_str (a b : Str) : OP (addD (.str a) (.str b)) Q = (a.length + b.length ≤ line ∧ Q (.str (a ++ b))) := b_OP_ite
theorem b_add_list (a b : List D) : OP (addD (.list a) (.list b)) Q = (a.length + b.length ≤ line ∧ Q (.list (a ++ b))) := b_OP_ite
theorem b_add_tup (a b : List D) : OP (addD (.tuple a) (.tuple b)) Q = (a.length + b.length ≤ line ∧ Q (.tuple (a ++ b))) := b_OP_ite
theorem b_sub_int (a b : Int) : OP (subD (.int a) (.int b)) Q = Q (.int (a - b)) := rfl
theorem b_mul_int (a b : Int) : OP (mulD (.int a) (.int b)) Q = ((small64 a || small64 b) = true ∧ Q (.int (a * b))) := b_OP_ite
theorem b_mod_int (a b : Int) : OP (modD (.int a) (.int b)) Q = (0 < b ∧ Q (.int (a % b))) := b_OP_ite
theorem b_fdiv_int (a b : Int) : OP (fdivD (.int a) (.int b)) Q = ((0 < b ∧ b.natAbs.log2 < 9000) ∧ Q (.int (a / b))) := b_OP_ite
theorem b_pow_int (a b : Int) : OP (powD (.int a) (.int b)) Q = ((0 ≤ b ∧ b ≤ 1000000 ∧ a.natAbs < 2 ^ 64) ∧ Q (.int (a ^ b.toNat))) := b_OP_ite
theorem b_lt_int (a b : Int) : OP (ltD (.int a) (.int b)) Q = Q (.bool (decide (a < b))) := rfl
theorem b_le_int (a b : Int) : OP (leD (.int a) (.int b)) Q = Q (.bool (decide (a ≤ b))) := rfl
theorem b_gt_int (a b : Int) : OP (gtD (.int a) (.int b)) Q = Q (.bool (decide (b < a))) := rfl
theorem b_ge_int (a b : Int) : OP (geD (.int a) (.int b)) Q = Q (.bool (decide (b ≤ a))) := rfl
theorem b_eq_int (a b : Int) : OP (eqD (.int a) (.int b)) Q = Q (.bool (decide (a = b))) := rfl
theorem b_eq_str (a b : Str) : OP (eqD (.str a) (.str b)) Q = Q (.bool (decide (a = b))) := rfl
theorem b_ne_int (a b : Int) : OP (neD (.int a) (.int b)) Q = Q (.bool !(decide (a = b))) := rfl
theorem b_ne_str (a b : Str) : OP (neD (.str a) (.str b)) Q = Q (.bool !(decide (a = b))) := rfl
theorem b_neg_int (a : Int) : OP (negD (.int a)) Q = Q (.int (-a)) := rfl
theorem b_abs_int (a : Int) : OP (absG [.int a]) Q = Q (.int (if a < 0 then -a else a)) := rfl
theorem b_int_int (a : Int) : OP (intG [.int a]) Q = Q (.int a) := rfl
theorem b_int_bool (a : Bool) : OP (intG [.bool a]) Q = Q (.int (if a then 1 else 0)) := rfl
theorem b_tup_list (a : List D) : OP (tupG [.list a]) Q = Q (.tuple a) := rfl
theorem b_lst_tup (a : List D) : OP (lstG [.tuple a]) Q = Q (.list a) := rfl
theorem b_lst_list (a : List D) : OP (lstG [.list a]) Q = Q (.list a) := rfl
theorem b_len_str (a : Str) : OP (lenG [.str a]) Q = (a.length ≤ line ∧ Q (.int a.length)) := b_OP_ite
theorem b_len_list (a : List D) : OP (lenG [.list a]) Q = Q (.int a.length) := rfl
theorem b_len_tup (a : List D) : OP (lenG [.tuple a]) Q = Q (.int a.length) := rfl
theorem b_seq_list (a : List D) (Q : List D → Prop) : OP (seqOf (.list a)) Q = Q a := rfl
theorem b_seq_tup (a : List D) (Q : List D → Prop) : OP (seqOf (.tuple a)) Q = Q a := rfl
theorem b_seq_str (a : Str) (Q : List D → Prop) : OP (seqOf (.str a)) Q = Q (signs a) := rfl
theorem b_rng1_int (a : Int) (Q : List D → Prop) : OP (rng1 [.int a]) Q = (in62 a = true ∧ Q (rangeD 0 a.toNat)) := b_OP_ite
theorem b_rng2_int (a b : Int) (Q : List D → Prop) : OP (rng2 [.int a, .int b]) Q = ((in62 a && in62 b) = true ∧ Q (rangeD a (b - a).toNat)) := b_OP_ite
theorem b_sl_list (a : List D) (l h : Option Int) : OP (slD (.list a) l h) Q = Q (.list (cutD a l h)) := rfl
theorem b_sl_tup (a : List D) (l h : Option Int) : OP (slD (.tuple a) l h) Q = Q (.tuple (cutD a l h)) := rfl
theorem b_sl_str (a : Str) (l h : Option Int) : OP (slD (.str a) l h) Q = (a.length ≤ line ∧ Q (.str (L2.cutS a l h))) := b_OP_ite
theorem b_rev_list (a : List D) : OP (revD (.list a)) Q = Q (.list a.reverse) := rfl
theorem b_rev_tup (a : List D) : OP (revD (.tuple a)) Q = Q (.tuple a.reverse) := rfl
theorem b_upper_str (a : Str) : OP (upperD (.str a)) Q = (a.length ≤ 5592405 ∧ Q (.str (Txt.upper a))) := b_OP_ite
/-- an item in range -/
theorem b_ix_list {a : List D} {i : Int} (h : ∃ j : Nat, i = (j : Int) ∧ ∃ d, a[j]? = some d ∧ Q d) : OP (ixD (.list a) (.int i)) Q := by
  obtain ⟨j, rfl, d, h1, h2⟩ := h
  have hl : j < a.length := (List.getElem?_eq_some_iff.mp h1).1
  show OP (L2.atI a (j : Int)) Q
  unfold L2.atI L2.ixN
  rw [if_pos (by omega), if_pos (by omega)]
  show OP (a[(j : Int).toNat]?) Q
  rw [Int.toNat_natCast, h1]
  exact h2
theorem b_ix_tup {a : List D} {i : Int} (h : ∃ j : Nat, i = (j : Int) ∧ ∃ d, a[j]? = some d ∧ Q d) : OP (ixD (.tuple a) (.int i)) Q := b_ix_list h
theorem b_ix_all {a : List D} {i : Int} (h0 : 0 ≤ i) (h1 : i < a.length) (h : ∀ d ∈ a, Q d) : OP (ixD (.list a) (.int i)) Q := by
  have hl : i.toNat < a.length := by omega
  exact b_ix_list ⟨i.toNat, by omega, a[i.toNat], List.getElem?_eq_getElem hl, h _ (List.getElem_mem hl)⟩
theorem b_ix_allT {a : List D} {i : Int} (h0 : 0 ≤ i) (h1 : i < a.length) (h : ∀ d ∈ a, Q d) : OP (ixD (.tuple a) (.int i)) Q := b_ix_all h0 h1 h
theorem b_ix_str {a : Str} {i : Int} (hz : a.length ≤ line) (h0 : 0 ≤ i) (h1 : i < a.length) (h : ∀ c, Q (.str ⟨#[c]⟩)) : OP (ixD (.str a) (.int i)) Q := by
  have hl : i.toNat < a.cps.toList.length := by rw [Array.length_toList]; have : (a.length : Int) = (a.cps.size : Int) := rfl; omega
  show OP (if a.length ≤ line then (L2.atI a.cps.toList i).map fun c => .str ⟨#[c]⟩ else none) Q
  rw [if_pos hz]
  unfold L2.atI L2.ixN
  rw [if_pos h0, if_pos (by rw [Array.length_toList]; exact h1)]
  show OP ((a.cps.toList[i.toNat]?).map fun c => PyData.str ⟨#[c]⟩) Q
  rw [List.getElem?_eq_getElem hl]
  exact h _
end
end Ev

set_option Elab.async false
set_option linter.all false
set_option maxRecDepth 100000
set_option maxHeartbeats 4000000
/-! The plain rules, closed against unfolding. -/
namespace Ev
open PySem

structure WP {α : Type} (r : Res α) (Q : α → Prop) : Prop where
  get : WPb r Q
structure WF (r : Fl) (N B C : Env → Prop) (R : D → Prop) : Prop where
  get : WFb r N B C R
theorem WP_iff {α : Type} {r : Res α} {Q : α → Prop} : WP r Q = WPb r Q := propext ⟨fun h => h.get, fun h => ⟨h⟩⟩
theorem WF_iff {r : Fl} {N B C : Env → Prop} {R : D → Prop} : WF r N B C R = WFb r N B C R := propext ⟨fun h => h.get, fun h => ⟨h⟩⟩
section
variable {α β : Type} {Q : α → Prop} {ρ : Env} {P : D → Prop} {f h k : Env → Res D} {fs : List (Env → Res D)}
theorem wp_ok (a : α) (Q : α → Prop) : WP (.ok a) Q = Q a := by
  simp only [WP_iff, WF_iff]
  apply b_wp_ok
theorem op_some (a : α) (Q : α → Prop) : OP (some a) Q = Q a := by
  apply b_op_some
theorem op_none (Q : α → Prop) : OP none Q = False := by
  apply b_op_none
theorem bp_bool (b : Bool) (Q : Bool → Prop) : BP (.bool b) Q = Q b := by
  apply b_bp_bool
theorem ip_int (b : Int) (Q : Int → Prop) : IP (.int b) Q = Q b := by
  apply b_ip_int
theorem lp_list (b : List D) (Q : List D → Prop) : LP (.list b) Q = Q b := by
  apply b_lp_list
theorem tp_tup (b : List D) (Q : List D → Prop) : TP (.tuple b) Q = Q b := by
  apply b_tp_tup
theorem slot_0 (d : D) (r : Env) (Q : D → Prop) : slotP (some d :: r) 0 Q = Q d := by
  apply b_slot_0
theorem slot_s (o : Option D) (r : Env) (i : Nat) (Q : D → Prop) : slotP (o :: r) (i + 1) Q = slotP r i Q := by
  apply b_slot_s
theorem WP_bind {r : Res β} {g : β → Res α} (Q : α → Prop) : WP (r >>= g) Q = WP r fun a => WP (g a) Q := by
  simp only [WP_iff, WF_iff]
  apply b_WP_bind
theorem WP_ofO {o : Option α} (Q : α → Prop) : WP (ofO o) Q = OP o Q := by
  simp only [WP_iff, WF_iff]
  apply b_WP_ofO
theorem WP_asB {d : D} (Q : Bool → Prop) : WP (asB d) Q = BP d Q := by
  simp only [WP_iff, WF_iff]
  apply b_WP_asB
theorem WP_cB (Q : Bool → Prop) : WP (cB f ρ) Q = WP (f ρ) fun d => BP d Q := by
  simp only [WP_iff, WF_iff]
  apply b_WP_cB
theorem wp_slot (i : Nat) (Q : D → Prop) : WP (cSlot i ρ) Q = slotP ρ i Q := by
  simp only [WP_iff, WF_iff]
  apply b_wp_slot
theorem wp_lit (d : D) (Q : D → Prop) : WP (cLit d ρ) Q = Q d := by
  simp only [WP_iff, WF_iff]
  apply b_wp_lit
theorem wp_c1 (g : D → Option D) (Q : D → Prop) : WP (c1 g f ρ) Q = WP (f ρ) fun a => OP (g a) Q := by
  simp only [WP_iff, WF_iff]
  apply b_wp_c1
theorem wp_c2 (g : D → D → Option D) (Q : D → Prop) : WP (c2 g f h ρ) Q = WP (f ρ) fun a => WP (h ρ) fun b => OP (g a b) Q := by
  simp only [WP_iff, WF_iff]
  apply b_wp_c2
theorem wp_nil (Q : List D → Prop) : WP (cs [] ρ) Q = Q [] := by
  simp only [WP_iff, WF_iff]
  apply b_wp_nil
theorem wp_cons (Q : List D → Prop) : WP (cs (f :: fs) ρ) Q = WP (f ρ) fun a => WP (cs fs ρ) fun as => Q (a :: as) := by
  simp only [WP_iff, WF_iff]
  apply b_wp_cons
theorem wp_cN (g : List D → Option D) (Q : D → Prop) : WP (cN g fs ρ) Q = WP (cs fs ρ) fun as => OP (g as) Q := by
  simp only [WP_iff, WF_iff]
  apply b_wp_cN
theorem wp_and (Q : D → Prop) : WP (cAnd f h ρ) Q = WP (f ρ) fun d => BP d fun b => if b = true then WP (h ρ) Q else Q (.bool false) := by
  simp only [WP_iff, WF_iff]
  apply b_wp_and
theorem wp_or (Q : D → Prop) : WP (cOr f h ρ) Q = WP (f ρ) fun d => BP d fun b => if b = true then Q (.bool true) else WP (h ρ) Q := by
  simp only [WP_iff, WF_iff]
  apply b_wp_or
theorem wp_not (Q : D → Prop) : WP (cNot f ρ) Q = WP (f ρ) fun d => BP d fun b => Q (.bool !b) := by
  simp only [WP_iff, WF_iff]
  apply b_wp_not
theorem wp_if (Q : D → Prop) : WP (cIf k f h ρ) Q = WP (k ρ) fun d => BP d fun b => if b = true then WP (f ρ) Q else WP (h ρ) Q := by
  simp only [WP_iff, WF_iff]
  apply b_wp_if
theorem wp_tup (Q : D → Prop) : WP (cTup fs ρ) Q = WP (cs fs ρ) fun as => as.length ≤ line ∧ Q (.tuple as) := by
  simp only [WP_iff, WF_iff]
  apply b_wp_tup
theorem wp_lst (Q : D → Prop) : WP (cLst fs ρ) Q = WP (cs fs ρ) fun as => as.length ≤ line ∧ Q (.list as) := by
  simp only [WP_iff, WF_iff]
  apply b_wp_lst
theorem wp_chain (g g' : D → D → Option D) (Q : D → Prop) : WP (cChain g g' f h k ρ) Q = WP (f ρ) fun a => WP (h ρ) fun b => OP (g a b) fun z => BP z fun t => if t = true then WP (k ρ) fun c => OP (g' b c) Q else Q (.bool false) := by
  simp only [WP_iff, WF_iff]
  apply b_wp_chain
theorem wp_isi (T : String) (Q : D → Prop) : WP (cIsi f T ρ) Q = WP (f ρ) fun d => Q (.bool (isiB d T)) := by
  simp only [WP_iff, WF_iff]
  apply b_wp_isi
theorem wp_part0 (Q : Option Int → Prop) : WP (cPart none ρ) Q = Q none := by
  simp only [WP_iff, WF_iff]
  apply b_wp_part0
theorem wp_part (Q : Option Int → Prop) : WP (cPart (some f) ρ) Q = WP (f ρ) fun d => IP d fun i => Q (some i) := by
  simp only [WP_iff, WF_iff]
  apply b_wp_part
theorem wp_sl (l u : Option (Env → Res D)) (Q : D → Prop) : WP (cSl f l u ρ) Q = WP (f ρ) fun a => WP (cPart l ρ) fun lo => WP (cPart u ρ) fun hi => OP (slD a lo hi) Q := by
  simp only [WP_iff, WF_iff]
  apply b_wp_sl
theorem wp_call (fn : Nat → List D → Res D) (i : Nat) (Q : D → Prop) : WP (cCall fn i fs ρ) Q = WP (cs fs ρ) fun as => WP (fn i as) Q := by
  simp only [WP_iff, WF_iff]
  apply b_wp_call
theorem wp_callB (fn : Nat → List D → Res D) (fr : Bool) (i : Nat) (Q : D → Prop) : WP (cCallB fn fr i fs ρ) Q = WP (cs fs ρ) fun as => WP (fn i as) fun d => pureR fr d = true ∧ Q d := by
  simp only [WP_iff, WF_iff]
  apply b_wp_callB
theorem wp_get {f h : Env → Res D} (Q : D → Prop) : WP (cGet f h ρ) Q = WP (f ρ) fun a => DcP a fun es => WP (h ρ) fun b => OP (dgetD (.dict es) b) Q := by
  simp only [WP_iff, WF_iff]
  apply b_wp_get
theorem dc_dict (es : List (D × D)) (Q : List (D × D) → Prop) : DcP (.dict es) Q = Q es := nr rfl
theorem wp_idx {f h : Env → Res D} (Q : D → Prop) : WP (cIdx f h ρ) Q = WP (f ρ) fun a => TP a fun ds => WP (h ρ) fun b => OP (idxD (.tuple ds) b) Q := by
  simp only [WP_iff, WF_iff]
  apply b_wp_idx
theorem wp_seq (Q : List D → Prop) : WP (cSeq f ρ) Q = WP (f ρ) fun d => OP (seqOf d) Q := by
  simp only [WP_iff, WF_iff]
  apply b_wp_seq
theorem wp_src (g : List D → Option (List D)) (Q : List D → Prop) : WP (cSrc g fs ρ) Q = WP (cs fs ρ) fun as => OP (g as) Q := by
  simp only [WP_iff, WF_iff]
  apply b_wp_src
end
section
variable {ρ : Env} {N B C : Env → Prop} {R : D → Prop} {f k v : Env → Res D} {fs : List (Env → Res D)} {a b : Cmd}
theorem WF_of {α : Type} {r : Res α} {g : α → Fl} : WF (Fl.of r g) N B C R = WP r fun x => WF (g x) N B C R := by
  simp only [WP_iff, WF_iff]
  apply b_WF_of
theorem wf_next : WF (cNext ρ) N B C R = N ρ := by
  simp only [WP_iff, WF_iff]
  apply b_wf_next
theorem wf_brk : WF (cBrk ρ) N B C R = B ρ := by
  simp only [WP_iff, WF_iff]
  apply b_wf_brk
theorem wf_cnt : WF (cCnt ρ) N B C R = C ρ := by
  simp only [WP_iff, WF_iff]
  apply b_wf_cnt
theorem wf_retN : WF (cRetN ρ) N B C R = R .none := by
  simp only [WP_iff, WF_iff]
  apply b_wf_retN
theorem wf_seq : WF (cSeqS a b ρ) N B C R = WF (a ρ) (fun ρ' => WF (b ρ') N B C R) B C R := by
  simp only [WP_iff, WF_iff]
  apply b_wf_seq
theorem wf_ret : WF (cRet f ρ) N B C R = WP (f ρ) R := by
  simp only [WP_iff, WF_iff]
  apply b_wf_ret
theorem wf_drop : WF (cDrop f ρ) N B C R = WP (f ρ) fun _ => N ρ := by
  simp only [WP_iff, WF_iff]
  apply b_wf_drop
theorem wf_asg (i : Nat) : WF (cAsg false [i] f ρ) N B C R = WP (f ρ) fun d => N (ρ.set i (some d)) := by
  simp only [WP_iff, WF_iff]
  apply b_wf_asg
theorem wf_asgT (is : List Nat) : WF (cAsg true is f ρ) N B C R = WP (f ρ) fun d => TP d fun ds => ds.length = is.length ∧ N (setAll ρ is ds) := by
  simp only [WP_iff, WF_iff]
  apply b_wf_asgT
theorem wf_par (is : List Nat) : WF (cPar is fs ρ) N B C R = WP (cs fs ρ) fun ds => N (setAll ρ is ds) := by
  simp only [WP_iff, WF_iff]
  apply b_wf_par
theorem wf_if {c : Env → Res Bool} : WF (cIfS c a b ρ) N B C R = WP (c ρ) fun t => if t = true then WF (a ρ) N B C R else WF (b ρ) N B C R := by
  simp only [WP_iff, WF_iff]
  apply b_wf_if
theorem wf_app (i : Nat) : WF (cAppend i v ρ) N B C R = slotP ρ i fun d => LP d fun xs => WP (v ρ) fun dv => xs.length < line ∧ N (ρ.set i (some (.list (xs ++ [dv])))) := by
  simp only [WP_iff, WF_iff]
  apply b_wf_app
theorem wf_setI (i : Nat) : WF (cSetI i k v ρ) N B C R = WP (v ρ) fun dv => slotP ρ i fun d => WP (k ρ) fun dk => OP (setG dk dv d) fun d' => N (ρ.set i (some d')) := by
  simp only [WP_iff, WF_iff]
  apply b_wf_setI
theorem tg_name (i : Nat) (d : D) (Q : Env → Prop) : TgP false [i] d ρ Q = Q (ρ.set i (some d)) := by
  apply b_tg_name
theorem tg_tup (is : List Nat) (d : D) (Q : Env → Prop) : TgP true is d ρ Q = TP d fun ds => ds.length = is.length ∧ Q (setAll ρ is ds) := by
  apply b_tg_tup
end
section
variable {Q : D → Prop}
theorem add_int (a b : Int) : OP (addD (.int a) (.int b)) Q = Q (.int (a + b)) := by
  apply b_add_int
theorem add_str (a b : Str) : OP (addD (.str a) (.str b)) Q = (a.length + b.length ≤ line ∧ Q (.str (a ++ b))) := by
  apply b_add_str
theorem add_list (a b : List D) : OP (addD (.list a) (.list b)) Q = (a.length + b.length ≤ line ∧ Q (.list (a ++ b))) := by
  apply b_add_list
theorem add_tup (a b : List D) : OP (addD (.tuple a) (.tuple b)) Q = (a.length + b.length ≤ line ∧ Q (.tuple (a ++ b))) := by
  apply b_add_tup
theorem sub_int (a b : Int) : OP (subD (.int a) (.int b)) Q = Q (.int (a - b)) := by
  apply b_sub_int
theorem mul_int (a b : Int) : OP (mulD (.int a) (.int b)) Q = ((small64 a || small64 b) = true ∧ Q (.int (a * b))) := by
  apply b_mul_int
theorem mod_int (a b : Int) : OP (modD (.int a) (.int b)) Q = (0 < b ∧ Q (.int (a % b))) := by
  apply b_mod_int
theorem fdiv_int (a b : Int) : OP (fdivD (.int a) (.int b)) Q = ((0 < b ∧ b.natAbs.log2 < 9000) ∧ Q (.int (a / b))) := by
  apply b_fdiv_int
theorem pow_int (a b : Int) : OP (powD (.int a) (.int b)) Q = ((0 ≤ b ∧ b ≤ 1000000 ∧ a.natAbs < 2 ^ 64) ∧ Q (.int (a ^ b.toNat))) := by
  apply b_pow_int
theorem lt_int (a b : Int) : OP (ltD (.int a) (.int b)) Q = Q (.bool (decide (a < b))) := by
  apply b_lt_int
theorem le_int (a b : Int) : OP (leD (.int a) (.int b)) Q = Q (.bool (decide (a ≤ b))) := by
  apply b_le_int
theorem gt_int (a b : Int) : OP (gtD (.int a) (.int b)) Q = Q (.bool (decide (b < a))) := by
  apply b_gt_int
theorem ge_int (a b : Int) : OP (geD (.int a) (.int b)) Q = Q (.bool (decide (b ≤ a))) := by
  apply b_ge_int
theorem eq_int (a b : Int) : OP (eqD (.int a) (.int b)) Q = Q (.bool (decide (a = b))) := by
  apply b_eq_int
theorem eq_str (a b : Str) : OP (eqD (.str a) (.str b)) Q = Q (.bool (decide (a = b))) := by
  apply b_eq_str
theorem ne_int (a b : Int) : OP (neD (.int a) (.int b)) Q = Q (.bool !(decide (a = b))) := by
  apply b_ne_int
theorem ne_str (a b : Str) : OP (neD (.str a) (.str b)) Q = Q (.bool !(decide (a = b))) := by
  apply b_ne_str
theorem neg_int (a : Int) : OP (negD (.int a)) Q = Q (.int (-a)) := by
  apply b_neg_int
theorem abs_int (a : Int) : OP (absG [.int a]) Q = Q (.int (if a < 0 then -a else a)) := by
  apply b_abs_int
theorem int_int (a : Int) : OP (intG [.int a]) Q = Q (.int a) := by
  apply b_int_int
theorem int_bool (a : Bool) : OP (intG [.bool a]) Q = Q (.int (if a then 1 else 0)) := by
  apply b_int_bool
theorem tup_list (a : List D) : OP (tupG [.list a]) Q = Q (.tuple a) := by
  apply b_tup_list
theorem lst_tup (a : List D) : OP (lstG [.tuple a]) Q = Q (.list a) := by
  apply b_lst_tup
theorem lst_list (a : List D) : OP (lstG [.list a]) Q = Q (.list a) := by
  apply b_lst_list
theorem len_str (a : Str) : OP (lenG [.str a]) Q = (a.length ≤ line ∧ Q (.int a.length)) := by
  apply b_len_str
theorem len_list (a : List D) : OP (lenG [.list a]) Q = Q (.int a.length) := by
  apply b_len_list
theorem len_tup (a : List D) : OP (lenG [.tuple a]) Q = Q (.int a.length) := by
  apply b_len_tup
theorem seq_list (a : List D) (Q : List D → Prop) : OP (seqOf (.list a)) Q = Q a := by
  apply b_seq_list
theorem seq_tup (a : List D) (Q : List D → Prop) : OP (seqOf (.tuple a)) Q = Q a := by
  apply b_seq_tup
theorem seq_str (a : Str) (Q : List D → Prop) : OP (seqOf (.str a)) Q = Q (signs a) := by
  apply b_seq_str
theorem rng1_int (a : Int) (Q : List D → Prop) : OP (rng1 [.int a]) Q = (in62 a = true ∧ Q (rangeD 0 a.toNat)) := by
  apply b_rng1_int
theorem rng2_int (a b : Int) (Q : List D → Prop) : OP (rng2 [.int a, .int b]) Q = ((in62 a && in62 b) = true ∧ Q (rangeD a (b - a).toNat)) := by
  apply b_rng2_int
theorem sl_list (a : List D) (l h : Option Int) : OP (slD (.list a) l h) Q = Q (.list (cutD a l h)) := by
  apply b_sl_list
theorem sl_tup (a : List D) (l h : Option Int) : OP (slD (.tuple a) l h) Q = Q (.tuple (cutD a l h)) := by
  apply b_sl_tup
theorem sl_str (a : Str) (l h : Option Int) : OP (slD (.str a) l h) Q = (a.length ≤ line ∧ Q (.str (L2.cutS a l h))) := by
  apply b_sl_str
theorem rev_list (a : List D) : OP (revD (.list a)) Q = Q (.list a.reverse) := by
  apply b_rev_list
theorem rev_tup (a : List D) : OP (revD (.tuple a)) Q = Q (.tuple a.reverse) := by
  apply b_rev_tup
theorem upper_str (a : Str) : OP (upperD (.str a)) Q = (a.length ≤ 5592405 ∧ Q (.str (Txt.upper a))) := by
  apply b_upper_str
end
section
variable {α : Type} {Q : α → Prop} {ρ : Env}
theorem WP.imp {r : Res α} {Q' : α → Prop} (h : WP r Q) (i : ∀ a, Q a → Q' a) : WP r Q' := ⟨WPb.imp h.get i⟩
theorem WP.ok {r : Res α} {a : α} (h : WP r fun x => x = a) : r = .ok a := WPb.ok h.get
theorem wp_of {r : Res α} {a : α} (h : r = .ok a) (q : Q a) : WP r Q := ⟨b_wp_of h q⟩
theorem WF.imp {r : Fl} {N B C N' B' C' : Env → Prop} {R R' : D → Prop} (h : WF r N B C R) (n : ∀ ρ, N ρ → N' ρ) (bb : ∀ ρ, B ρ → B' ρ) (c : ∀ ρ, C ρ → C' ρ) (rr : ∀ d, R d → R' d) : WF r N' B' C' R' := ⟨WFb.imp h.get n bb c rr⟩
theorem wf_for {N B C : Env → Prop} {R : D → Prop} {tup : Bool} {is : List Nat} {src : Env → Res (List D)} {body : Cmd} (I : List D → Nat → Env → Prop)
    (h : WP (src ρ) fun ds => I ds 0 ρ ∧ (∀ k d ρ, ds[k]? = some d → I ds k ρ → TgP tup is d ρ fun ρ1 => WF (body ρ1) (I ds (k + 1)) N (I ds (k + 1)) R) ∧ ∀ ρ, I ds ds.length ρ → N ρ) : WF (cFor tup is src body ρ) N B C R := by
  simp only [WP_iff, WF_iff] at h ⊢
  exact b_wf_for I h
theorem wp_run {m n : Nat} {c : Cmd} {as : List D} {Q : D → Prop} (hl : as.length = m) (h : WF (c (startE m n as)) (fun _ => Q .none) (fun _ => False) (fun _ => False) Q) : WP (runF m n c as) Q := ⟨b_wp_run hl h.get⟩
theorem wp_comp {i : Nat} {src : Env → Res (List D)} {elt : Env → Res D} {Q : D → Prop} (P : D → D → Prop) (h : WP (src ρ) fun ds => ds.length ≤ line ∧ (∀ d ∈ ds, WP (elt (ρ.set i (some d))) (P d)) ∧ ∀ ys, Paired P ds ys → Q (.list ys)) :
    WP (cComp [i] false [i] src cYes elt ρ) Q := by
  simp only [WP_iff] at h ⊢
  exact b_wp_comp P h
theorem wp_compM {i : Nat} {src : Env → Res (List D)} {elt : Env → Res D} {Q : D → Prop} (g : D → D) (h : WP (src ρ) fun ds => ds.length ≤ line ∧ (∀ d ∈ ds, WP (elt (ρ.set i (some d))) fun v => v = g d) ∧ Q (.list (ds.map g))) :
    WP (cComp [i] false [i] src cYes elt ρ) Q := by
  simp only [WP_iff] at h ⊢
  exact b_wp_compM g h
end
section
variable {Q : D → Prop}
theorem ix_list {a : List D} {i : Int} (h : ∃ j : Nat, i = (j : Int) ∧ ∃ d, a[j]? = some d ∧ Q d) : OP (ixD (.list a) (.int i)) Q := b_ix_list h
theorem ix_tup {a : List D} {i : Int} (h : ∃ j : Nat, i = (j : Int) ∧ ∃ d, a[j]? = some d ∧ Q d) : OP (ixD (.tuple a) (.int i)) Q := b_ix_tup h
theorem ix_all {a : List D} {i : Int} (h0 : 0 ≤ i) (h1 : i < a.length) (h : ∀ d ∈ a, Q d) : OP (ixD (.list a) (.int i)) Q := b_ix_all h0 h1 h
theorem ix_allT {a : List D} {i : Int} (h0 : 0 ≤ i) (h1 : i < a.length) (h : ∀ d ∈ a, Q d) : OP (ixD (.tuple a) (.int i)) Q := b_ix_allT h0 h1 h
theorem ix_str {a : Str} {i : Int} (hz : a.length ≤ line) (h0 : 0 ≤ i) (h1 : i < a.length) (h : ∀ c, Q (.str ⟨#[c]⟩)) : OP (ixD (.str a) (.int i)) Q := b_ix_str hz h0 h1 h
end
end Ev

set_option Elab.async false
set_option linter.all false
set_option maxRecDepth 100000
set_option maxHeartbeats 4000000
/-! Plain lemmas of use for many laws. -/
namespace Ev
open PySem
theorem cutD_mem {xs : List D} {l h : Option Int} {d : D} (m : d ∈ cutD xs l h) : d ∈ xs := List.mem_of_mem_drop (List.mem_of_mem_take m)
theorem cutD_len (xs : List D) (l h : Option Int) : (cutD xs l h).length ≤ xs.length := cutD_length xs l h
theorem map_int {ns : List Int} {d : D} (m : d ∈ ns.map PyData.int) : ∃ i ∈ ns, d = .int i := by
  obtain ⟨i, h, e⟩ := List.mem_map.mp m
  exact ⟨i, h, e.symm⟩
theorem mem_get {α : Type} {l : List α} {k : Nat} {a : α} (h : l[k]? = some a) : a ∈ l := List.mem_of_getElem? h
theorem range_get {lo : Int} {n k : Nat} {d : D} (h : (rangeD lo n)[k]? = some d) : k < n ∧ d = .int (lo + (k : Nat)) := by
  unfold rangeD at h
  rw [List.getElem?_map] at h
  cases e : (List.range n)[k]? with
  | none => rw [e] at h; cases h
  | some j =>
    rw [e] at h
    obtain ⟨h1, h2⟩ := List.getElem?_eq_some_iff.mp e
    rw [List.getElem_range] at h2
    subst h2
    cases h
    exact ⟨by simpa using h1, rfl⟩
theorem range_mem {lo : Int} {n : Nat} {d : D} (h : d ∈ rangeD lo n) : ∃ k < n, d = .int (lo + (k : Nat)) := by
  unfold rangeD at h
  obtain ⟨k, h1, h2⟩ := List.mem_map.mp h
  exact ⟨k, by simpa using h1, h2.symm⟩
theorem range_len (lo : Int) (n : Nat) : (rangeD lo n).length = n := by simp [rangeD]
theorem small_of {i : Int} (h0 : -18446744073709551616 < i) (h1 : i < 18446744073709551616) : small64 i = true := by
  unfold small64
  rw [Bool.and_eq_true, decide_eq_true_eq, decide_eq_true_eq]
  exact ⟨by simpa using h0, by simpa using h1⟩
theorem in62_nat {n : Nat} (h : n ≤ 1000000000) : in62 (n : Int) = true := by
  unfold in62
  rw [Bool.and_eq_true, decide_eq_true_eq, decide_eq_true_eq]
  constructor <;> omega
theorem in62_of' {i : Int} (h0 : -1000000000 ≤ i) (h : i ≤ 1000000000) : in62 i = true := by
  unfold in62
  rw [Bool.and_eq_true, decide_eq_true_eq, decide_eq_true_eq]
  constructor <;> omega
theorem all_map {gb : D → Bool} {ds : List D} {Q : D → Prop} : OP (allG [.list (ds.map fun d => .bool (gb d))]) Q = Q (.bool (ds.all gb)) := by
  have e : ∀ ds : List D, boolsOf (ds.map fun d => .bool (gb d)) = some (ds.map gb) := by
    intro ds
    induction ds with
    | nil => rfl
    | cons d ds ih => simp [boolsOf, ih]
  unfold allG
  dsimp only
  rw [e]
  show Q (.bool ((ds.map gb).all id)) = _
  rw [List.all_map]; rfl
theorem any_map {gb : D → Bool} {ds : List D} {Q : D → Prop} : OP (anyG [.list (ds.map fun d => .bool (gb d))]) Q = Q (.bool (ds.any gb)) := by
  have e : ∀ ds : List D, boolsOf (ds.map fun d => .bool (gb d)) = some (ds.map gb) := by
    intro ds
    induction ds with
    | nil => rfl
    | cons d ds ih => simp [boolsOf, ih]
  unfold anyG
  dsimp only
  rw [e]
  show Q (.bool ((ds.map gb).any id)) = _
  rw [List.any_map]; rfl
theorem in_str (a b : Str) (Q : D → Prop) : OP (inD (.str a) (.str b)) Q = Q (.bool (inS a b)) := nr rfl
theorem signs_mem {z : Str} {d : D} (h : d ∈ signs z) : ∃ c, d = .str ⟨#[c]⟩ := by
  obtain ⟨c, _, e⟩ := List.mem_map.mp h
  exact ⟨c, e.symm⟩
theorem signs_len (z : Str) : (signs z).length = z.length := by
  unfold signs
  rw [List.length_map, Array.length_toList]; rfl
theorem atI_nat {α : Type} {a : List α} {j : Nat} {d : α} (h : a[j]? = some d) : L2.atI a (j : Int) = some d := by
  have hl : j < a.length := (List.getElem?_eq_some_iff.mp h).1
  unfold L2.atI L2.ixN
  rw [if_pos (by omega), if_pos (by omega)]
  show a[(j : Int).toNat]? = some d
  rw [Int.toNat_natCast, h]
section
variable {x a b c : D} {r : List D} {Q : D → Prop}
theorem ixt0 : OP (ixD (.tuple (x :: r)) (.int 0)) Q = Q x := by
  show OP (L2.atI (x :: r) ((0 : Nat) : Int)) Q = Q x
  rw [atI_nat (d := x) rfl]; rfl
theorem ixt1 : OP (ixD (.tuple (x :: a :: r)) (.int 1)) Q = Q a := by
  show OP (L2.atI (x :: a :: r) ((1 : Nat) : Int)) Q = Q a
  rw [atI_nat (d := a) rfl]; rfl
theorem ixt2 : OP (ixD (.tuple (x :: a :: b :: r)) (.int 2)) Q = Q b := by
  show OP (L2.atI (x :: a :: b :: r) ((2 : Nat) : Int)) Q = Q b
  rw [atI_nat (d := b) rfl]; rfl
theorem ixt3 : OP (ixD (.tuple (x :: a :: b :: c :: r)) (.int 3)) Q = Q c := by
  show OP (L2.atI (x :: a :: b :: c :: r) ((3 : Nat) : Int)) Q = Q c
  rw [atI_nat (d := c) rfl]; rfl
theorem ixl0 : OP (ixD (.list (x :: r)) (.int 0)) Q = Q x := ixt0
theorem ixl1 : OP (ixD (.list (x :: a :: r)) (.int 1)) Q = Q a := ixt1
theorem ixl2 : OP (ixD (.list (x :: a :: b :: r)) (.int 2)) Q = Q b := ixt2
theorem ixl3 : OP (ixD (.list (x :: a :: b :: c :: r)) (.int 3)) Q = Q c := ixt3
end
/-- data whose texts and sequences are no longer than m -/
inductive Wf (m : Nat) : D → Prop
  | none : Wf m .none
  | bool (b : Bool) : Wf m (.bool b)
  | int (i : Int) : Wf m (.int i)
  | str {z : Str} : z.length ≤ m → Wf m (.str z)
  | tup {xs : List D} : xs.length ≤ m → (∀ x ∈ xs, Wf m x) → Wf m (.tuple xs)
  | lst {xs : List D} : xs.length ≤ m → (∀ x ∈ xs, Wf m x) → Wf m (.list xs)
  | dic0 : Wf m (.dict [])
theorem Wf.mono {m k : Nat} (h : m ≤ k) {d : D} (w : Wf m d) : Wf k d := by
  induction w with
  | none => exact .none
  | bool b => exact .bool b
  | int i => exact .int i
  | str h1 => exact .str (Nat.le_trans h1 h)
  | tup h1 _ ih => exact .tup (Nat.le_trans h1 h) ih
  | lst h1 _ ih => exact .lst (Nat.le_trans h1 h) ih
  | dic0 => exact .dic0
end Ev

set_option Elab.async false
set_option linter.all false
set_option maxRecDepth 100000
set_option maxHeartbeats 4000000
/-! Plain lemmas: data looked at by a test, shapes. -/
namespace Ev
open PySem
/-- a look at written data -/
def wfb (m : Nat) : Nat → D → Bool
  | _, .none => true
  | _, .bool _ => true
  | _, .int _ => true
  | _, .str z => decide (z.length ≤ m)
  | k + 1, .tuple xs => decide (xs.length ≤ m) && xs.all (wfb m k)
  | k + 1, .list xs => decide (xs.length ≤ m) && xs.all (wfb m k)
  | _, .dict [] => true
  | _, _ => false
theorem wfb_ok {m : Nat} : ∀ {k : Nat} {d : D}, wfb m k d = true → Wf m d := by
  intro k
  induction k with
  | zero =>
    intro d h
    cases d with
    | none => exact .none
    | bool b => exact .bool b
    | int i => exact .int i
    | str z => exact .str (by simpa [wfb] using h)
    | tuple xs => simp [wfb] at h
    | list xs => simp [wfb] at h
    | dict es =>
      cases es with
      | nil => exact .dic0
      | cons e es => simp [wfb] at h
  | succ k ih =>
    intro d h
    cases d with
    | none => exact .none
    | bool b => exact .bool b
    | int i => exact .int i
    | str z => exact .str (by simpa [wfb] using h)
    | tuple xs =>
      simp only [wfb, Bool.and_eq_true, decide_eq_true_eq, List.all_eq_true] at h
      exact .tup h.1 fun x hx => ih (h.2 x hx)
    | list xs =>
      simp only [wfb, Bool.and_eq_true, decide_eq_true_eq, List.all_eq_true] at h
      exact .lst h.1 fun x hx => ih (h.2 x hx)
    | dict es =>
      cases es with
      | nil => exact .dic0
      | cons e es => simp [wfb] at h
theorem wfl_ok {m : Nat} (k : Nat) {l : List D} (h : l.all (wfb m k) = true) : ∀ d ∈ l, Wf m d := fun d hd => wfb_ok (List.all_eq_true.mp h d hd)
/-- laid out: texts of real signs, no dicts, no deeper than k -/
def Lay (k : Nat) (d : D) : Prop := d.canLay0 = true ∧ d.depth ≤ k
theorem Lay.all {k : Nat} : ∀ {ys : List D}, (∀ y ∈ ys, Lay k y) → PyData.canLayAll0 ys = true ∧ PyData.depthAll ys ≤ k
  | [], _ => ⟨rfl, Nat.zero_le _⟩
  | y :: ys, h => by
    obtain ⟨h1, h2⟩ := Lay.all fun z hz => h z (List.mem_cons_of_mem _ hz)
    obtain ⟨h3, h4⟩ := h y List.mem_cons_self
    refine ⟨by simp [PyData.canLayAll0, h1, h3], ?_⟩
    simp only [PyData.depthAll]
    omega
theorem Lay.tup {k : Nat} {ys : List D} (h : ∀ y ∈ ys, Lay k y) : Lay (k + 1) (.tuple ys) := by
  obtain ⟨h1, h2⟩ := Lay.all h
  exact ⟨by simp [PyData.canLay0, h1], by simp only [PyData.depth]; omega⟩
theorem Lay.lst {k : Nat} {ys : List D} (h : ∀ y ∈ ys, Lay k y) : Lay (k + 1) (.list ys) := by
  obtain ⟨h1, h2⟩ := Lay.all h
  exact ⟨by simp [PyData.canLay0, h1], by simp only [PyData.depth]; omega⟩
theorem Lay.shaped {k : Nat} {d : D} (h : Lay k d) (hk : k ≤ 64) : SeqAt.shaped d = true := by
  unfold SeqAt.shaped
  rw [Bool.and_eq_true, decide_eq_true_eq]
  exact ⟨h.1, Nat.le_trans h.2 hk⟩
theorem Lay.int (i : Int) (k : Nat) : Lay k (.int i) := ⟨rfl, Nat.zero_le _⟩
theorem Lay.bool (i : Bool) (k : Nat) : Lay k (.bool i) := ⟨rfl, Nat.zero_le _⟩
theorem Lay.str {z : Str} (h : PyData.canLay0 (.str z) = true) (k : Nat) : Lay k (.str z) := ⟨h, Nat.zero_le _⟩
theorem eq_tup0 {y : D} {ys : List D} {Q : D → Prop} (h : SeqAt.shaped (.tuple (y :: ys)) = true) (q : Q (.bool false)) : OP (eqD (.tuple (y :: ys)) (.tuple [])) Q := by
  have e : eqB (.tuple (y :: ys)) (.tuple []) = some false := by
    show (if SeqAt.shaped (.tuple (y :: ys)) = true ∧ SeqAt.shaped (.tuple []) = true then some (PyData.eqv (.tuple (y :: ys)) (.tuple [])) else none) = _
    rw [if_pos ⟨h, by decide⟩]
    simp [PyData.eqv, PyData.eqvAll]
  unfold eqD
  rw [e]
  exact q
theorem eq_tup1 {ys : List D} {Q : D → Prop} (h1 : 1 ≤ ys.length) (h : SeqAt.shaped (.tuple ys) = true) (q : Q (.bool false)) : OP (eqD (.tuple ys) (.tuple [])) Q := by
  cases ys with
  | nil => simp at h1
  | cons y ys => exact eq_tup0 h q
theorem ne_bools2 (a b : Bool) {Q : D → Prop} (q : Q (.bool false)) : OP (neD (.list [.bool a, .bool b]) (.list [.bool a, .bool b])) Q := by
  have e : eqB (.list [.bool a, .bool b]) (.list [.bool a, .bool b]) = some true := by cases a <;> cases b <;> rfl
  unfold neD
  rw [e]
  exact q
theorem cutS_len (z : Str) (l h : Option Int) : (L2.cutS z l h).length ≤ z.length := L2.cutS_length z l h
theorem str_app (a b : Str) : (a ++ b).length = a.length + b.length := by
  show (a.cps ++ b.cps).size = a.cps.size + b.cps.size
  exact Array.size_append
theorem str_one (c : Nat) : (⟨#[c]⟩ : Str).length = 1 := rfl
theorem cutD_ints (ns : List Int) (l h : Option Int) : ∃ ms : List Int, cutD (ns.map PyData.int) l h = ms.map PyData.int := by
  refine ⟨(ns.drop (HT.sIx ns.length 0 l)).take (HT.sIx ns.length ns.length h - HT.sIx ns.length 0 l), ?_⟩
  unfold cutD
  simp [List.map_take, List.map_drop]
theorem cutD_from (xs : List D) (k : Nat) (h : k ≤ xs.length) : cutD xs (some (k : Int)) none = xs.drop k := by
  unfold cutD
  have : HT.sIx xs.length 0 (some (k : Int)) = k := by rw [HT.sIx_nat]; omega
  rw [this, HT.sIx_none]
  exact List.take_of_length_le (by simp)
end Ev

set_option Elab.async false
set_option linter.all false
set_option maxRecDepth 100000
set_option maxHeartbeats 4000000
/-! Plain lemmas: comprehensions over pairs, texts. -/
namespace Ev
open PySem
theorem compT_wp {own is : List Nat} {elt : Env → Res D} {ρ : Env} {P : D → D → Prop} : ∀ {ds : List D}, (∀ d ∈ ds, ∃ xs, d = .tuple xs ∧ xs.length = is.length ∧ WPb (elt (setAll (wipeE ρ own) is xs)) (P d)) → WPb (nx (compL (cTg true is) cYes elt (wipeE ρ own) ds)) fun ys => Paired P ds ys
  | [], _ => .nil
  | d :: ds, h => by
    have ih := compT_wp (own := own) (is := is) (elt := elt) (ρ := ρ) (P := P) (ds := ds) fun d' hd => h d' (by simp [hd])
    obtain ⟨xs, rfl, hl, h0⟩ := h d (by simp)
    have e : cTg true is (.tuple xs) (wipeE ρ own) = .ok (setAll (wipeE ρ own) is xs) := if_pos hl
    have ec : compL (cTg true is) cYes elt (wipeE ρ own) (.tuple xs :: ds) = (cTg true is (.tuple xs) (wipeE ρ own) >>= fun ρ1 => cYes ρ1 >>= fun b => if b = true then (elt ρ1 >>= fun y => compL (cTg true is) cYes elt (wipeE ρ own) ds >>= fun ys => .ok (y :: ys)) else compL (cTg true is) cYes elt (wipeE ρ own) ds) := rfl
    rw [ec, e]
    show WPb (nx (elt (setAll (wipeE ρ own) is xs) >>= fun y => compL (cTg true is) cYes elt (wipeE ρ own) ds >>= fun ys => .ok (y :: ys))) _
    cases e1 : elt (setAll (wipeE ρ own) is xs) with
    | exc x => rw [e1] at h0; exact h0
    | bad => rw [e1] at h0; exact h0
    | ok y =>
      rw [e1] at h0
      cases e2 : compL (cTg true is) cYes elt (wipeE ρ own) ds with
      | exc x => rw [e2] at ih; exact ih
      | bad => rw [e2] at ih; exact ih
      | ok ys => rw [e2] at ih; exact .cons h0 ih
theorem wp_compT {own is : List Nat} {src : Env → Res (List D)} {elt : Env → Res D} {ρ : Env} {Q : D → Prop} (P : D → D → Prop) (h : WP (src ρ) fun ds => ds.length ≤ line ∧ (∀ d ∈ ds, ∃ xs, d = .tuple xs ∧ xs.length = is.length ∧ WP (elt (setAll (wipeE ρ own) is xs)) (P d)) ∧ ∀ ys, Paired P ds ys → Q (.list ys)) :
    WP (cComp own true is src cYes elt ρ) Q := by
  simp only [WP_iff] at h ⊢
  show WPb (src ρ >>= fun ds => if ds.length ≤ line then (nx (compL (cTg true is) cYes elt (wipeE ρ own) ds) >>= fun ys => .ok (.list ys)) else .bad) Q
  rw [b_WP_bind]
  refine WPb.imp h fun ds ⟨h1, h2, h3⟩ => ?_
  rw [if_pos h1, b_WP_bind]
  exact WPb.imp (compT_wp h2) fun ys p => h3 ys p
theorem paired_strs {f : D → Str} : ∀ {ds ys : List D}, Paired (fun d y => y = .str (f d)) ds ys → ys = (ds.map f).map .str
  | _, _, .nil => rfl
  | _, _, .cons h r => by rw [h, paired_strs r]; rfl
theorem strsOf_map : ∀ zs : List Str, strsOf (zs.map PyData.str) = some zs
  | [] => rfl
  | z :: zs => by
    show (strsOf (zs.map PyData.str)).map (z :: ·) = some (z :: zs)
    rw [strsOf_map zs]; rfl
theorem join_strs {a : Str} {zs : List Str} {Q : D → Prop} (hz : (zs.map (·.length)).sum + zs.length * a.length ≤ 16777216) (q : Q (.str (Txt.join a zs))) : OP (joinD (.str a) (.list (zs.map .str))) Q := by
  unfold joinD
  dsimp only
  rw [strsOf_map]
  show OP (if _ then _ else none) Q
  rw [if_pos hz]
  exact q
theorem wp_cM1 {g : D → D → Option D} {f h : Env → Res D} {ρ : Env} {Q : D → Prop} (w : WP (f ρ) fun a => ∃ z, a = .str z ∧ WP (h ρ) fun b => OP (g a b) Q) : WP (cM1 g f h ρ) Q := by
  simp only [WP_iff] at w ⊢
  show WPb (f ρ >>= fun a => asS a >>= fun a => h ρ >>= fun b => ofO (g a b)) Q
  rw [b_WP_bind]
  refine WPb.imp w fun a ⟨z, e, w2⟩ => ?_
  subst e
  show WPb (h ρ >>= fun b => ofO (g (.str z) b)) Q
  rw [b_WP_bind]
  refine WPb.imp w2 fun b q => ?_
  rw [b_WP_ofO]
  exact q
theorem part_str {a b : Str} {Q : D → Prop} (hb : (b.length == 0) = false) (ha : a.length ≤ line) (q : Q (.tuple [.str (Txt.partition a b).1, .str (Txt.partition a b).2.1, .str (Txt.partition a b).2.2])) : OP (partD (.str a) (.str b)) Q := by
  unfold partD
  dsimp only
  rw [if_pos ⟨hb, ha⟩]
  exact q
theorem split_str {a b : Str} {Q : D → Prop} (hb : (b.length == 0) = false) (ha : a.length + 2 ≤ line) (q : Q (.list ((Txt.split a b).map .str))) : OP (splitD (.str a) (.str b)) Q := by
  unfold splitD
  dsimp only
  rw [if_pos ⟨hb, ha⟩]
  exact q
end Ev

set_option Elab.async false
set_option linter.all false
set_option maxRecDepth 100000
set_option maxHeartbeats 4000000
/-! Plain lemmas: sorted texts, rows of texts told apart. -/
namespace Ev
open PySem
def ltS (a b : Str) : Bool := decide (a.cps.toList < b.cps.toList)
def adjB : List Str → Bool
  | x :: y :: r => ltS x y && adjB (y :: r)
  | _ => true
theorem ltS_trans {a b c : Str} (h1 : ltS a b = true) (h2 : ltS b c = true) : ltS a c = true := by
  unfold ltS at *
  rw [decide_eq_true_eq] at *
  exact List.lt_trans h1 h2
theorem ltS_irr (a : Str) : ltS a a = false := by
  unfold ltS
  exact decide_eq_false (List.lt_irrefl _)
theorem adj_pw : ∀ zs : List Str, adjB zs = true ↔ zs.Pairwise fun a b => ltS a b = true
  | [] => by simp [adjB]
  | [x] => by simp [adjB]
  | x :: y :: r => by
    have ih := adj_pw (y :: r)
    unfold adjB
    rw [Bool.and_eq_true, ih, List.pairwise_cons (a := x)]
    constructor
    · rintro ⟨h1, h2⟩
      refine ⟨fun z hz => ?_, h2⟩
      rcases List.mem_cons.mp hz with rfl | hz
      · exact h1
      · exact ltS_trans h1 ((List.pairwise_cons.mp h2).1 z hz)
    · rintro ⟨h1, h2⟩
      exact ⟨h1 y List.mem_cons_self, h2⟩
theorem adj_at : ∀ zs : List Str, adjB zs = (List.range (zs.length - 1)).all fun k => ltS (zs.getD k Str.empty) (zs.getD (k + 1) Str.empty)
  | [] => rfl
  | [x] => rfl
  | x :: y :: r => by
    have ih := adj_at (y :: r)
    unfold adjB
    rw [ih]
    show _ = (List.range ((y :: r).length - 1 + 1)).all _
    rw [List.range_succ_eq_map, List.all_cons, List.all_map]
    rfl
theorem pw_nodup {zs : List Str} (h : zs.Pairwise fun a b => ltS a b = true) : zs.Nodup := h.imp fun {a b} h e => by
  subst e
  rw [ltS_irr] at h
  cases h
theorem le_str (a b : Str) : PySem.W.dataLe false id (.str a) (.str b) = !ltS b a := by
  show (!PySem.W.dataLt (.str b) (.str a)) = _
  rw [PySem.W.dataLt_str]
  rfl
theorem keyB_strs (zs : List Str) : (zs.map PyData.str).all keyB = true := by
  rw [List.all_eq_true]
  intro d hd
  obtain ⟨z, _, rfl⟩ := List.mem_map.mp hd
  rfl
theorem alike_strs (zs : List Str) : allAlikeB (zs.map PyData.str) = true := by
  simp only [allAlikeB, List.all_eq_true]
  intro a ha b hb
  obtain ⟨x, _, rfl⟩ := List.mem_map.mp ha
  obtain ⟨y, _, rfl⟩ := List.mem_map.mp hb
  simp [PySem.W.alike]
theorem setB_strs {zs : List Str} (h : zs.length < 64) : setB (zs.map PyData.str) = true := by
  unfold setB
  rw [Bool.and_eq_true, Bool.or_eq_true]
  refine ⟨.inl ?_, by rw [List.length_map]; exact decide_eq_true h⟩
  rw [List.all_eq_true]
  intro d hd
  obtain ⟨z, _, rfl⟩ := List.mem_map.mp hd
  rfl
theorem shaped_str {z : Str} (h : PyData.canLay0 (.str z) = true) : SeqAt.shaped (.str z) = true := (Lay.str h 0).shaped (by decide)
theorem sortB_strs {ds : List D} (h : ∀ d ∈ ds, ∃ z, d = .str z ∧ PyData.canLay0 (.str z) = true) : sortB ds = true := by
  unfold sortB
  rw [Bool.and_eq_true, Bool.and_eq_true, Bool.or_eq_true]
  refine ⟨⟨?_, .inr ?_⟩, ?_⟩
  · simp only [allAlikeB, List.all_eq_true]
    intro a ha b hb
    obtain ⟨x, rfl, _⟩ := h a ha
    obtain ⟨y, rfl, _⟩ := h b hb
    simp [PySem.W.alike]
  · rw [List.all_eq_true]
    intro d hd
    obtain ⟨z, rfl, _⟩ := h d hd
    rfl
  · rw [List.all_eq_true]
    intro d hd
    obtain ⟨z, rfl, hz⟩ := h d hd
    exact shaped_str hz
theorem str_inj : ∀ {xs ys : List Str}, xs.map PyData.str = ys.map PyData.str → xs = ys
  | [], [], _ => rfl
  | [], _ :: _, h => by simp at h
  | _ :: _, [], h => by simp at h
  | x :: xs, y :: ys, h => by
    simp only [List.map_cons, List.cons.injEq, PyData.str.injEq] at h
    rw [h.1, str_inj h.2]
theorem nodup_strs {zs : List Str} : (zs.map PyData.str).Nodup ↔ zs.Nodup := by
  constructor
  · exact fun h => List.Pairwise.of_map _ (fun a b hne e => hne (by rw [e])) h
  · exact fun h => List.pairwise_map.mpr (h.imp fun hne e => hne (by injection e))
/-- the rising row is what sorting without repeats leaves -/
theorem rise_sort (zs : List Str) : (zs.map PyData.str = sortL (dd (zs.map PyData.str))) ↔ adjB zs = true := by
  have kb := keyB_strs zs
  rw [adj_pw]
  constructor
  · intro h
    have nd : (zs.map PyData.str).Nodup := by
      rw [h]
      exact (sortL_pm _).nodup_iff.mpr (nodup_dd kb)
    have pw : (zs.map PyData.str).Pairwise fun a b => PySem.W.dataLe false id a b = true := by
      rw [h]
      exact sortL_pw _
    have := List.pairwise_map.mp (List.pairwise_and_iff.mpr ⟨pw, nd⟩)
    refine this.imp fun {a b} ⟨h1, h2⟩ => ?_
    rw [le_str, Bool.not_eq_true'] at h1
    unfold ltS at *
    rw [decide_eq_false_iff_not] at h1
    rw [decide_eq_true_eq]
    rcases Classical.em (a.cps.toList < b.cps.toList) with c | c
    · exact c
    · exact absurd (congrArg PyData.str (PySem.W.str_of_cps (List.le_antisymm (List.not_lt.mp h1) (List.not_lt.mp c)))) h2
  · intro h
    rw [dd_nodup kb (nodup_strs.mpr (pw_nodup h))]
    refine sortL_one kb (alike_strs zs) (.refl _) (List.pairwise_map.mpr (h.imp fun {a b} q => ?_))
    rw [le_str, Bool.not_eq_true']
    unfold ltS at *
    rw [decide_eq_true_eq] at q
    exact decide_eq_false fun c => absurd (List.lt_trans q c) (List.lt_irrefl _)
theorem eqvAll_strs : ∀ xs ys : List Str, PyData.eqvAll (xs.map .str) (ys.map .str) = decide (xs = ys)
  | [], [] => by simp [PyData.eqvAll]
  | [], _ :: _ => by simp [PyData.eqvAll]
  | _ :: _, [] => by simp [PyData.eqvAll]
  | x :: xs, y :: ys => by
    have ih := eqvAll_strs xs ys
    simp only [List.map_cons, PyData.eqvAll, ih, PyData.eqv, List.cons.injEq]
    by_cases h1 : x = y <;> by_cases h2 : xs = ys <;> simp [h1, h2]
theorem lay_strs {ds : List D} (h : ∀ d ∈ ds, ∃ z, d = .str z ∧ PyData.canLay0 (.str z) = true) : SeqAt.shaped (.list ds) = true := by
  refine (Lay.lst (k := 0) fun d hd => ?_).shaped (by decide)
  obtain ⟨z, rfl, hz⟩ := h d hd
  exact Lay.str hz 0
/-- a row of texts compared with another -/
theorem eq_strs {xs ys : List Str} (hx : ∀ z ∈ xs, PyData.canLay0 (.str z) = true) (hy : ∀ z ∈ ys, PyData.canLay0 (.str z) = true) {Q : D → Prop} (q : Q (.bool (decide (xs = ys)))) : OP (eqD (.list (xs.map .str)) (.list (ys.map .str))) Q := by
  have s : ∀ zs : List Str, (∀ z ∈ zs, PyData.canLay0 (.str z) = true) → SeqAt.shaped (.list (zs.map PyData.str)) = true := fun zs h => lay_strs fun d hd => by
    obtain ⟨z, hz, rfl⟩ := List.mem_map.mp hd
    exact ⟨z, rfl, h z hz⟩
  have e : eqB (.list (xs.map .str)) (.list (ys.map .str)) = some (decide (xs = ys)) := by
    show (if SeqAt.shaped (.list (xs.map .str)) = true ∧ SeqAt.shaped (.list (ys.map .str)) = true then some (PyData.eqv (.list (xs.map .str)) (.list (ys.map .str))) else none) = _
    rw [if_pos ⟨s xs hx, s ys hy⟩]
    simp [PyData.eqv, eqvAll_strs]
  unfold eqD
  rw [e]
  exact q
theorem dd_strs (zs : List Str) : ∃ us : List Str, sortL (dd (zs.map PyData.str)) = us.map .str ∧ (∀ z ∈ us, z ∈ zs) ∧ (decide (zs = us)) = adjB zs := by
  have kb := keyB_strs zs
  have mem : ∀ d ∈ sortL (dd (zs.map PyData.str)), ∃ z ∈ zs, d = .str z := fun d hd => by
    have := (mem_dd kb d).mp ((sortL_pm _).mem_iff.mp hd)
    obtain ⟨z, hz, rfl⟩ := List.mem_map.mp this
    exact ⟨z, hz, rfl⟩
  have key : ∀ l : List D, (∀ d ∈ l, ∃ z ∈ zs, d = .str z) → ∃ us : List Str, l = us.map .str ∧ ∀ z ∈ us, z ∈ zs := by
    intro l
    induction l with
    | nil => intro _; exact ⟨[], rfl, by simp⟩
    | cons d l ih =>
      intro h
      obtain ⟨z, hz, rfl⟩ := h d List.mem_cons_self
      obtain ⟨us, rfl, hu⟩ := ih fun e he => h e (List.mem_cons_of_mem _ he)
      exact ⟨z :: us, rfl, fun y hy => (List.mem_cons.mp hy).elim (fun e => e ▸ hz) (hu y)⟩
  obtain ⟨us, e, hu⟩ := key _ mem
  refine ⟨us, e, hu, ?_⟩
  rw [Bool.eq_iff_iff, decide_eq_true_eq, ← rise_sort, e]
  exact ⟨fun h => by rw [← h], fun h => str_inj h⟩
/-- xs == sorted(set(xs)) -/
theorem eq_sorted {zs : List Str} (h : ∀ z ∈ zs, PyData.canLay0 (.str z) = true) (hl : zs.length < 64) {Q : D → Prop} (q : Q (.bool (adjB zs))) : OP (ssG (.list (zs.map .str))) fun v => OP (eqD (.list (zs.map .str)) v) Q := by
  obtain ⟨us, e, hu, ea⟩ := dd_strs zs
  have sb : sortB (dd (zs.map PyData.str)) = true := sortB_strs fun d hd => by
    obtain ⟨z, hz, rfl⟩ := List.mem_map.mp ((mem_dd (keyB_strs zs) d).mp hd)
    exact ⟨z, rfl, h z hz⟩
  show OP (if (setB (zs.map PyData.str) && sortB (dd (zs.map PyData.str))) = true then some (PyData.list (sortL (dd (zs.map PyData.str)))) else none) _
  rw [setB_strs hl, sb, e, if_pos (show (true && true) = true from rfl)]
  exact eq_strs h (fun z hz => h z (hu z hz)) (by rw [ea]; exact q)
/-- len(set(xs)) -/
theorem len_set {zs : List Str} (hl : zs.length < 64) {Q : D → Prop} (q : Q (.int (dd (zs.map PyData.str)).length)) : OP (lsG (.list (zs.map .str))) Q := by
  show OP (if setB (zs.map PyData.str) = true then some (PyData.int (dd (zs.map PyData.str)).length) else none) _
  rw [setB_strs hl, if_pos rfl]
  exact q
end Ev

set_option Elab.async false
set_option linter.all false
set_option maxRecDepth 100000
set_option maxHeartbeats 4000000
/-! Plain lemmas: rows of data that rise. -/
namespace Ev
open PySem
def adjD : List D → Bool
  | x :: y :: r => PySem.W.dataLt x y && adjD (y :: r)
  | _ => true
theorem dlt_trans {a b c : D} (h1 : PySem.W.dataLt a b = true) (h2 : PySem.W.dataLt b c = true) : PySem.W.dataLt a c = true := (PyProof.Rows.listOrd PyProof.Rows.itemOrd).trans _ _ _ h1 h2
theorem dlt_irr (a : D) : PySem.W.dataLt a a = false := (PyProof.Rows.listOrd PyProof.Rows.itemOrd).irrefl _
theorem dle_eq (a b : D) : PySem.W.dataLe false id a b = !PySem.W.dataLt b a := rfl
theorem adjD_pw : ∀ zs : List D, adjD zs = true ↔ zs.Pairwise fun a b => PySem.W.dataLt a b = true
  | [] => by simp [adjD]
  | [x] => by simp [adjD]
  | x :: y :: r => by
    have ih := adjD_pw (y :: r)
    unfold adjD
    rw [Bool.and_eq_true, ih, List.pairwise_cons (a := x)]
    constructor
    · rintro ⟨h1, h2⟩
      refine ⟨fun z hz => ?_, h2⟩
      rcases List.mem_cons.mp hz with rfl | hz
      · exact h1
      · exact dlt_trans h1 ((List.pairwise_cons.mp h2).1 z hz)
    · rintro ⟨h1, h2⟩
      exact ⟨h1 y List.mem_cons_self, h2⟩
theorem adjD_at : ∀ zs : List D, adjD zs = (List.range (zs.length - 1)).all fun k => PySem.W.dataLt (zs.getD k .none) (zs.getD (k + 1) .none)
  | [] => rfl
  | [x] => rfl
  | x :: y :: r => by
    have ih := adjD_at (y :: r)
    unfold adjD
    rw [ih]
    show _ = (List.range ((y :: r).length - 1 + 1)).all _
    rw [List.range_succ_eq_map, List.all_cons, List.all_map]
    rfl
/-- to rise is to stand sorted and each once -/
theorem adjD_sort {ds : List D} (hk : ds.all keyB = true) (ha : allAlikeB ds = true) : adjD ds = true ↔ (ds = sortL ds ∧ ds.Nodup) := by
  rw [adjD_pw]
  constructor
  · intro h
    refine ⟨sortL_one hk ha (.refl _) (h.imp fun {a b} q => ?_), h.imp fun {a b} q e => ?_⟩
    · rw [dle_eq, Bool.not_eq_true']
      cases z : PySem.W.dataLt b a with
      | false => rfl
      | true =>
        have := dlt_trans q z
        rw [dlt_irr] at this
        cases this
    · subst e
      rw [dlt_irr] at q
      cases q
  · rintro ⟨h1, h2⟩
    have pw : ds.Pairwise fun a b => PySem.W.dataLe false id a b = true := by rw [h1]; exact sortL_pw _
    refine (List.pairwise_and_iff.mpr ⟨pw, h2⟩).imp_of_mem ?_
    intro a b h3 h4 ⟨h5, h6⟩
    cases z : PySem.W.dataLt a b with
    | true => rfl
    | false => exact absurd (le_anti (List.all_eq_true.mp hk a h3) (allAlike_mem ha h3 h4) h5 (by rw [dle_eq, z]; rfl)) h6
mutual
theorem eqv_self : ∀ x : D, keyB x = true → PyData.eqv x x = true
  | .int a, _ => by simp [PyData.eqv]
  | .str a, _ => by simp [PyData.eqv]
  | .tuple xs, hk => by
    have hk' : (tkAll xs).isSome = true := by
      have : ((tkAll xs).map NestedKey.tup).isSome = true := hk
      simpa using this
    simp only [PyData.eqv]
    exact eqvAll_self xs hk'
  | .none, hk => by cases hk
  | .bool _, hk => by cases hk
  | .list _, hk => by cases hk
  | .dict _, hk => by cases hk
theorem eqvAll_self : ∀ xs : List D, (tkAll xs).isSome = true → PyData.eqvAll xs xs = true
  | [], _ => by simp [PyData.eqvAll]
  | x :: xs, hk => by
    obtain ⟨ks, hk⟩ := Option.isSome_iff_exists.mp hk
    obtain ⟨k, h1, hk⟩ := Option.bind_eq_some_iff.mp (show ((tkD x).bind fun k => (tkAll xs).map (k :: ·)) = some ks from hk)
    obtain ⟨ks', h2, _⟩ := Option.map_eq_some_iff.mp hk
    simp only [PyData.eqvAll, eqv_self x (by unfold keyB; rw [h1]; rfl), eqvAll_self xs (by rw [h2]; rfl), Bool.and_self]
end
theorem tkAll_of : ∀ {ds : List D}, ds.all keyB = true → (tkAll ds).isSome = true
  | [], _ => rfl
  | d :: ds, h => by
    rw [List.all_cons, Bool.and_eq_true] at h
    obtain ⟨k, h1⟩ := Option.isSome_iff_exists.mp h.1
    obtain ⟨ks, h2⟩ := Option.isSome_iff_exists.mp (tkAll_of h.2)
    show ((tkD d).bind fun k => (tkAll ds).map (k :: ·)).isSome = true
    rw [h1, h2]; rfl
/-- equal as Python says, for data that are keys and alike -/
theorem eqvAll_iff {ds es : List D} (hk : ds.all keyB = true) (ha : PySem.W.alikeAll ds es = true) : PyData.eqvAll ds es = true ↔ ds = es := by
  constructor
  · exact eqvAll_eq ds es (tkAll_of hk) ha
  · rintro rfl
    exact eqvAll_self ds (tkAll_of hk)
theorem alikeAll_perm : ∀ {ds es : List D}, (∀ a ∈ ds, ∀ b ∈ es, PySem.W.alike a b = true) → ds.length ≤ es.length → PySem.W.alikeAll ds es = true
  | [], es, _, _ => by cases es <;> simp [PySem.W.alikeAll]
  | a :: ds, [], _, h => by simp at h
  | a :: ds, b :: es, h, hl => by
    rw [PySem.W.alikeAll, h a List.mem_cons_self b List.mem_cons_self, alikeAll_perm (fun x hx y hy => h x (List.mem_cons_of_mem _ hx) y (List.mem_cons_of_mem _ hy)) (by simpa using hl)]
    rfl
theorem shaped_list {ds : List D} {k : Nat} (h : ∀ d ∈ ds, Lay k d) (hk : k < 64) : SeqAt.shaped (.list ds) = true := (Lay.lst h).shaped hk
/-- xs == sorted(xs), of rows that are keys and alike -/
theorem rising_list {ds : List D} {k : Nat} (hk : ds.all keyB = true) (hb : sortB ds = true) (hl : ∀ d ∈ ds, Lay k d) (hk2 : k < 64) {Q : D → Prop} (q : ∀ b : Bool, (b = true ↔ ds = sortL ds) → Q (.bool b)) :
    OP (sortG [.list ds]) fun v => OP (eqD (.list ds) v) Q := by
  have ha := sortB_alike hb
  have sh : SeqAt.shaped (.list ds) = true := shaped_list hl hk2
  have sh2 : SeqAt.shaped (.list (sortL ds)) = true := shaped_list (fun d hd => hl d ((sortL_pm ds).mem_iff.mp hd)) hk2
  have al : PySem.W.alikeAll ds (sortL ds) = true := alikeAll_perm (fun a h1 b h2 => allAlike_mem ha h1 ((sortL_pm ds).mem_iff.mp h2)) (by rw [(sortL_pm ds).length_eq]; exact Nat.le_refl _)
  have e : eqB (.list ds) (.list (sortL ds)) = some (PyData.eqvAll ds (sortL ds)) := by
    show (if SeqAt.shaped (.list ds) = true ∧ SeqAt.shaped (.list (sortL ds)) = true then some (PyData.eqv (.list ds) (.list (sortL ds))) else none) = _
    rw [if_pos ⟨sh, sh2⟩]
    simp [PyData.eqv]
  show OP (if sortB ds = true then some (PyData.list (sortL ds)) else none) _
  rw [if_pos hb]
  show OP (eqD (.list ds) (.list (sortL ds))) Q
  unfold eqD
  rw [e]
  exact q _ (eqvAll_iff hk al)
end Ev

set_option Elab.async false
set_option linter.all false
set_option maxRecDepth 100000
set_option maxHeartbeats 4000000
/-! Plain lemmas: names put together step by step. -/
namespace Ev.Pt
open PySem
abbrev Parts := List (List Str)
def partOf (ps : Parts) (n : Str) : List Str := (ps.find? fun p => decide (n ∈ p)).getD []
/-- unlike names, each in one part, no part empty -/
structure Ok (names : List Str) (ps : Parts) : Prop where
  perm : ps.flatten.Perm names
  nd : names.Nodup
  ne : ∀ p ∈ ps, p ≠ []
section
variable {names : List Str} {ps : Parts}
theorem Ok.fnd (h : Ok names ps) : ps.flatten.Nodup := h.perm.nodup_iff.mpr h.nd
theorem Ok.mem (h : Ok names ps) {n : Str} (hn : n ∈ names) : partOf ps n ∈ ps ∧ n ∈ partOf ps n := by
  obtain ⟨p, hp, hnp⟩ := List.mem_flatten.mp (h.perm.mem_iff.mpr hn)
  unfold partOf
  cases e : ps.find? fun p => decide (n ∈ p) with
  | none =>
    have := List.find?_eq_none.mp e p hp
    simp [hnp] at this
  | some q =>
    have h1 := List.find?_some e
    exact ⟨List.mem_of_find?_eq_some e, by simpa using h1⟩
theorem Ok.uniq (h : Ok names ps) {n : Str} {p q : List Str} (hp : p ∈ ps) (hq : q ∈ ps) (np : n ∈ p) (nq : n ∈ q) : p = q := by
  have fl := h.fnd
  rw [List.Nodup, List.pairwise_flatten] at fl
  obtain ⟨i, hi, e1⟩ := List.mem_iff_getElem.mp hp
  obtain ⟨j, hj, e2⟩ := List.mem_iff_getElem.mp hq
  rcases Nat.lt_trichotomy i j with c | c | c
  · have := List.pairwise_iff_getElem.mp fl.2 i j hi hj c
    rw [e1, e2] at this
    exact absurd rfl (this n np n nq)
  · subst c
    rw [← e1, ← e2]
  · have := List.pairwise_iff_getElem.mp fl.2 j i hj hi c
    rw [e1, e2] at this
    exact absurd rfl (this n nq n np)
theorem Ok.is (h : Ok names ps) {n : Str} {p : List Str} (hp : p ∈ ps) (np : n ∈ p) : partOf ps n = p := by
  have hn : n ∈ names := h.perm.mem_iff.mp (List.mem_flatten.mpr ⟨p, hp, np⟩)
  obtain ⟨h1, h2⟩ := h.mem hn
  exact h.uniq h1 hp h2 np
theorem Ok.nodup (h : Ok names ps) : ps.Nodup := by
  have fl := h.fnd
  rw [List.Nodup, List.pairwise_flatten] at fl
  refine List.Pairwise.imp_of_mem ?_ fl.2
  intro a b ha hb hab e
  subst e
  obtain ⟨x, hx⟩ := List.exists_mem_of_ne_nil a (h.ne a ha)
  exact hab x hx x hx rfl
/-- a and b put together -/
def join (ps : Parts) (a b : Str) : Parts := if partOf ps a = partOf ps b then ps else (ps.filter fun p => decide (p ≠ partOf ps a) && decide (p ≠ partOf ps b)) ++ [partOf ps a ++ partOf ps b]
theorem filter_two {ps : Parts} (nd : ps.Nodup) {p q : List Str} (hp : p ∈ ps) (hq : q ∈ ps) (ne : p ≠ q) : ps.Perm (p :: q :: ps.filter fun r => decide (r ≠ p) && decide (r ≠ q)) := by
  refine (List.perm_ext_iff_of_nodup nd ?_).mpr fun r => ?_
  · refine List.nodup_cons.mpr ⟨fun h => ?_, List.nodup_cons.mpr ⟨fun h => ?_, nd.sublist List.filter_sublist⟩⟩
    · rcases List.mem_cons.mp h with h | h
      · exact ne h
      · have := (List.mem_filter.mp h).2
        simp at this
    · have := (List.mem_filter.mp h).2
      simp at this
  · rw [List.mem_cons, List.mem_cons, List.mem_filter]
    constructor
    · intro h
      by_cases e1 : r = p
      · exact .inl e1
      · by_cases e2 : r = q
        · exact .inr (.inl e2)
        · exact .inr (.inr ⟨h, by simp [e1, e2]⟩)
    · rintro (rfl | rfl | h)
      · exact hp
      · exact hq
      · exact h.1
theorem Ok.join (h : Ok names ps) {a b : Str} (ha : a ∈ names) (hb : b ∈ names) : Ok names (join ps a b) := by
  unfold Pt.join
  split
  · exact h
  · rename_i hne
    obtain ⟨a1, a2⟩ := h.mem ha
    obtain ⟨b1, b2⟩ := h.mem hb
    have pm := filter_two h.nodup a1 b1 hne
    refine ⟨?_, h.nd, fun p hp => ?_⟩
    · rw [List.flatten_append]
      have e : (([partOf ps a ++ partOf ps b] : Parts)).flatten = partOf ps a ++ partOf ps b := by simp
      rw [e]
      have p1 := pm.flatten
      rw [List.flatten_cons, List.flatten_cons, ← List.append_assoc] at p1
      exact (List.perm_append_comm.trans p1.symm).trans h.perm
    · rcases List.mem_append.mp hp with hp | hp
      · exact h.ne p (List.mem_filter.mp hp).1
      · rw [List.mem_singleton.mp hp]
        intro e
        have := List.append_eq_nil_iff.mp e
        exact h.ne _ a1 this.1
theorem Ok.join_len (h : Ok names ps) {a b : Str} (ha : a ∈ names) (hb : b ∈ names) (hne : partOf ps a ≠ partOf ps b) : (Pt.join ps a b).length + 1 = ps.length := by
  unfold Pt.join
  rw [if_neg hne]
  have := (filter_two h.nodup (h.mem ha).1 (h.mem hb).1 hne).length_eq
  simp only [List.length_cons] at this
  rw [List.length_append, List.length_singleton]
  omega
theorem Ok.join_part (h : Ok names ps) {a b n : Str} (ha : a ∈ names) (hb : b ∈ names) (hn : n ∈ names) (hne : partOf ps a ≠ partOf ps b) : partOf (Pt.join ps a b) n = if n ∈ partOf ps a ++ partOf ps b then partOf ps a ++ partOf ps b else partOf ps n := by
  have hj := h.join ha hb
  have e : Pt.join ps a b = (ps.filter fun p => decide (p ≠ partOf ps a) && decide (p ≠ partOf ps b)) ++ [partOf ps a ++ partOf ps b] := by
    unfold Pt.join
    rw [if_neg hne]
  split
  · rename_i hm
    exact hj.is (by rw [e]; simp) hm
  · rename_i hm
    obtain ⟨h1, h2⟩ := h.mem hn
    refine hj.is ?_ h2
    rw [e, List.mem_append, List.mem_filter]
    refine .inl ⟨h1, ?_⟩
    have n1 : partOf ps n ≠ partOf ps a := fun z => hm (List.mem_append_left _ (z ▸ h2))
    have n2 : partOf ps n ≠ partOf ps b := fun z => hm (List.mem_append_right _ (z ▸ h2))
    simp [n1, n2]
end
def singles (names : List Str) : Parts := names.map fun n => [n]
theorem singles_ok {names : List Str} (nd : names.Nodup) : Ok names (singles names) := by
  refine ⟨?_, nd, fun p hp => ?_⟩
  · have : (singles names).flatten = names := by
      unfold singles
      induction names with
      | nil => rfl
      | cons n ns ih =>
        rw [List.map_cons, List.flatten_cons, ih (List.nodup_cons.mp nd).2]
        rfl
    rw [this]
  · obtain ⟨n, _, rfl⟩ := List.mem_map.mp hp
    simp
/-- gone through: the parts and what holds them -/
def step {α : Type} (f g : α → Str) (s : Parts × List α) (r : α) : Parts × List α := if partOf s.1 (f r) = partOf s.1 (g r) then s else (join s.1 (f r) (g r), s.2 ++ [r])
def gone {α : Type} (f g : α → Str) (names : List Str) (rs : List α) : Parts × List α := rs.foldl (step f g) (singles names, [])
section
variable {α : Type} {f g : α → Str} {names : List Str}
def Ends (f g : α → Str) (names : List Str) (rs : List α) : Prop := ∀ r ∈ rs, f r ∈ names ∧ g r ∈ names
theorem gone_snoc (rs : List α) (r : α) : gone f g names (rs ++ [r]) = step f g (gone f g names rs) r := by
  unfold gone
  rw [List.foldl_append]; rfl
/-- what is shown of it, from the front -/
theorem gone_ok (nd : names.Nodup) : ∀ (n : Nat) (rs : List α), rs.length = n → Ends f g names rs → Ok names (gone f g names rs).1 ∧ (gone f g names rs).2.length + (gone f g names rs).1.length = names.length ∧ gone f g names (gone f g names rs).2 = gone f g names rs ∧ (∀ r ∈ (gone f g names rs).2, r ∈ rs) := by
  intro n
  induction n with
  | zero =>
    intro rs h _
    obtain rfl : rs = [] := List.length_eq_zero_iff.mp h
    exact ⟨singles_ok nd, by simp [gone, singles], rfl, by simp [gone]⟩
  | succ n ih =>
    intro rs h he
    obtain ⟨ts, r, rfl⟩ : ∃ ts r, rs = ts ++ [r] := by
      have hne : rs ≠ [] := by intro e; rw [e] at h; simp at h
      exact ⟨rs.dropLast, rs.getLast hne, (List.dropLast_concat_getLast hne).symm⟩
    obtain ⟨i1, i2, i3, i4⟩ := ih ts (by simpa using h) fun x hx => he x (List.mem_append_left _ hx)
    obtain ⟨ha, hb⟩ := he r (by simp)
    rw [gone_snoc]
    unfold step
    split
    · exact ⟨i1, i2, i3, fun x hx => List.mem_append_left _ (i4 x hx)⟩
    · rename_i hne
      refine ⟨i1.join ha hb, ?_, ?_, fun x hx => ?_⟩
      · have := i1.join_len ha hb hne
        simp only [List.length_append, List.length_singleton]
        omega
      · rw [gone_snoc, i3]
        unfold step
        rw [if_neg hne]
      · rcases List.mem_append.mp hx with hx | hx
        · exact List.mem_append_left _ (i4 x hx)
        · exact List.mem_append_right _ hx
theorem gone_take (rs : List α) {j : Nat} {r : α} (h : rs[j]? = some r) : gone f g names (rs.take (j + 1)) = step f g (gone f g names (rs.take j)) r := by
  rw [List.take_succ, h]
  exact gone_snoc _ _
end
end Ev.Pt

set_option Elab.async false
set_option linter.all false
set_option maxRecDepth 100000
set_option maxHeartbeats 8000000
/-! Plain lemmas: names, rows of names, grounds. -/
namespace Ev
open PySem
open TL (tl joinL tl_join join_eq len_tl tl_append ext_tl tl_ofString mk_tl split_join partition_app)
def smallS : Str := "abcdefghijklmnopqrstuvwxyz"
def inB1 (S : Str) : D → Bool
  | .str c => inS c S
  | _ => false
theorem comp_sign {S : Str} {z : Str} {ρ : Ev.Env} {Q : D → Prop} {f : Ev.Env → Res D} (hf : ∀ ρ Q, WP (f ρ) Q = Q (.str S)) (hz : z.length ≤ line) (h : Q (.bool ((signs z).all (inB1 S)))) :
    WP (cComp [1] false [1] (cSeq (cSlot 0)) cYes (c2 inD (cSlot 1) f) (some (.str z) :: none :: ρ)) fun a => OP (allG [a]) Q := by
  refine wp_compM (fun d => .bool (inB1 S d)) ?_
  simp only [wp_ok, op_some, op_none, bp_bool, ip_int, lp_list, tp_tup, slot_0, slot_s, WP_cB, wp_slot, wp_lit, wp_c1, wp_c2, wp_nil, wp_cons, wp_cN, wp_and, wp_or, wp_not, wp_if, wp_tup, wp_lst, wp_chain, wp_isi, wp_part0, wp_part, wp_sl, wp_call, wp_seq, wp_src, wf_next, wf_brk, wf_cnt, wf_retN, wf_seq, wf_ret, wf_drop, wf_asg, wf_asgT, wf_par, wf_if, wf_app, wf_setI, tg_name, tg_tup, add_int, add_str, add_list, add_tup, sub_int, mul_int, mod_int, fdiv_int, pow_int, lt_int, le_int, gt_int, ge_int, eq_int, eq_str, ne_int, ne_str, neg_int, abs_int, int_int, int_bool, tup_list, lst_tup, lst_list, len_str, len_list, len_tup, seq_list, seq_tup, seq_str, rng1_int, rng2_int, sl_list, sl_tup, sl_str, rev_list, rev_tup, upper_str, List.set_cons_zero, List.set_cons_succ, setAll, List.length_cons, List.length_nil, Bool.false_eq_true, if_true, if_false, ite_self, eq_self, Bool.not_true, Bool.not_false, line, Nat.reduceLeDiff, Nat.reduceLT, Nat.reduceAdd, Int.reduceLT, Int.reduceLE, true_and, and_true, ixt0, ixt1, ixt2, ixt3, ixl0, ixl1, ixl2, ixl3]
  refine ⟨by rw [signs_len]; exact hz, fun d hd => ?_, ?_⟩
  · obtain ⟨c, rfl⟩ := signs_mem hd
    simp only [hf, in_str]
    rfl
  · rw [all_map]
    exact h
def nameB (z : Str) : Bool := decide (1 ≤ z.length) && decide (z.length ≤ 8) && (signs z).all (inB1 smallS)
theorem name_len {z : Str} (h : nameB z = true) : 1 ≤ z.length ∧ z.length ≤ 8 := by
  simp only [nameB, Bool.and_eq_true, decide_eq_true_eq] at h
  exact h.1
theorem inS_one (c : Nat) (S : Str) : inS ⟨#[c]⟩ S = decide (c ∈ tl S) := StrLaws.found_one S c
theorem signs_all {S z : Str} (h : (signs z).all (inB1 S) = true) : ∀ c ∈ tl z, c ∈ tl S := by
  intro c hc
  have := List.all_eq_true.mp h (.str ⟨#[c]⟩) (List.mem_map.mpr ⟨c, hc, rfl⟩)
  have e : inS ⟨#[c]⟩ S = true := this
  rw [inS_one] at e
  exact of_decide_eq_true e
theorem real_name {z : Str} (h : nameB z = true) : PyData.canLay0 (.str z) = true := by
  have hs : ∀ c ∈ tl smallS, c < 128 := by decide +kernel
  have h2 : (signs z).all (inB1 smallS) = true := by
    simp only [nameB, Bool.and_eq_true] at h
    exact h.2
  show (z.cps.all fun c => decide (c < 0x110000)) = true
  rw [← Array.all_toList, List.all_eq_true]
  intro c hc
  have := hs c (signs_all h2 c hc)
  rw [decide_eq_true_eq]
  omega
def nmB : D → Bool
  | .str z => nameB z
  | _ => false
theorem nm_shape {d : D} (h : nmB d = true) : ∃ z, d = .str z ∧ nameB z = true := by
  cases d <;> first | cases h | exact ⟨_, rfl, h⟩
/-- rows that can be told apart and put in order -/
structure Rows (k : Nat) (ds : List D) : Prop where
  key : ds.all keyB = true
  sort : sortB ds = true
  set : setB ds = true
  lay : ∀ d ∈ ds, Lay k d
  few : ds.length ≤ 61
theorem lt_rows {k : Nat} {ds : List D} (h : Rows k ds) {a b : D} (ha : a ∈ ds) (hb : b ∈ ds) (hk : k ≤ 60) (Q : D → Prop) : OP (ltD a b) Q = Q (.bool (PySem.W.dataLt a b)) := by
  have al := allAlike_mem (sortB_alike h.sort) ha hb
  have ka := List.all_eq_true.mp h.key a ha
  cases a with
  | int i =>
    cases b <;> first | (simp [PySem.W.alike] at al; done) | skip
    rw [lt_int, PySem.W.dataLt_int]
  | str x =>
    cases b <;> first | (simp [PySem.W.alike] at al; done) | skip
    rw [PySem.W.dataLt_str]; rfl
  | tuple xs =>
    cases b <;> first | (simp [PySem.W.alike] at al; done) | skip
    rename_i ys
    show OP (if PySem.W.alikeAll xs ys = true ∧ SeqAt.shaped (.tuple xs) = true ∧ SeqAt.shaped (.tuple ys) = true then some (.bool (PySem.W.dataLt (.tuple xs) (.tuple ys))) else none) Q = _
    rw [if_pos ⟨by simpa [PySem.W.alike] using al, (h.lay _ ha).shaped (by omega), (h.lay _ hb).shaped (by omega)⟩]
    rfl
  | _ => cases ka
/-- (0 - w, ..) -/
def ngD : D → D
  | .tuple (.int w :: r) => .tuple (.int (0 - w) :: r)
  | d => d
theorem rows_names {ds : List D} (h : ds.all nmB = true) (hl : ds.length ≤ 61) : Rows 0 ds := by
  have sh : ∀ d ∈ ds, ∃ z, d = .str z ∧ PyData.canLay0 (.str z) = true := fun d hd => by
    obtain ⟨z, rfl, hz⟩ := nm_shape (List.all_eq_true.mp h d hd)
    exact ⟨z, rfl, real_name hz⟩
  refine ⟨?_, sortB_strs sh, ?_, fun d hd => ?_, hl⟩
  · rw [List.all_eq_true]
    intro d hd
    obtain ⟨z, rfl, _⟩ := sh d hd
    rfl
  · unfold setB
    rw [Bool.and_eq_true, Bool.or_eq_true]
    refine ⟨.inl ?_, decide_eq_true (by omega)⟩
    rw [List.all_eq_true]
    intro d hd
    obtain ⟨z, rfl, _⟩ := sh d hd
    rfl
  · obtain ⟨z, rfl, hz⟩ := sh d hd
    exact Lay.str hz 0
theorem rows_of {ds : List D} (h : (∀ d ∈ ds, ∃ (w : Int) (x y : Str) (k : Int), d = .tuple [.int w, .str x, .str y, .int k] ∧ nameB x = true ∧ nameB y = true) ∨ ∀ d ∈ ds, ∃ (x y : Str) (k : Int), d = .tuple [.str x, .str y, .int k] ∧ nameB x = true ∧ nameB y = true) (hl : ds.length ≤ 61) : Rows 1 ds := by
  have lay : ∀ d ∈ ds, Lay 1 d := fun d hd => by
    rcases h with h | h
    · obtain ⟨w, x, y, k, rfl, hx, hy⟩ := h d hd
      refine Lay.tup (k := 0) fun v hv => ?_
      simp only [List.mem_cons, List.not_mem_nil, or_false] at hv
      rcases hv with rfl | rfl | rfl | rfl
      · exact Lay.int _ _
      · exact Lay.str (real_name hx) _
      · exact Lay.str (real_name hy) _
      · exact Lay.int _ _
    · obtain ⟨x, y, k, rfl, hx, hy⟩ := h d hd
      refine Lay.tup (k := 0) fun v hv => ?_
      simp only [List.mem_cons, List.not_mem_nil, or_false] at hv
      rcases hv with rfl | rfl | rfl
      · exact Lay.str (real_name hx) _
      · exact Lay.str (real_name hy) _
      · exact Lay.int _ _
  have one : ∀ d ∈ ds, keyB d = true ∧ isTup1 d = true ∧ tupB d = true := fun d hd => by
    rcases h with h | h
    · obtain ⟨w, x, y, k, rfl, _, _⟩ := h d hd
      exact ⟨rfl, rfl, rfl⟩
    · obtain ⟨x, y, k, rfl, _, _⟩ := h d hd
      exact ⟨rfl, rfl, rfl⟩
  have alike : ∀ a ∈ ds, ∀ b ∈ ds, PySem.W.alike a b = true := fun a ha b hb => by
    rcases h with h | h
    · obtain ⟨w, x, y, k, rfl, _, _⟩ := h a ha
      obtain ⟨w', x', y', k', rfl, _, _⟩ := h b hb
      simp [PySem.W.alike, PySem.W.alikeAll]
    · obtain ⟨x, y, k, rfl, _, _⟩ := h a ha
      obtain ⟨x', y', k', rfl, _, _⟩ := h b hb
      simp [PySem.W.alike, PySem.W.alikeAll]
  refine ⟨List.all_eq_true.mpr fun d hd => (one d hd).1, ?_, ?_, lay, hl⟩
  · unfold sortB
    rw [Bool.and_eq_true, Bool.and_eq_true, Bool.or_eq_true]
    refine ⟨⟨?_, .inl (List.all_eq_true.mpr fun d hd => (one d hd).2.1)⟩, List.all_eq_true.mpr fun d hd => (lay d hd).shaped (by decide)⟩
    simp only [allAlikeB, List.all_eq_true]
    exact alike
  · unfold setB
    rw [Bool.and_eq_true, Bool.or_eq_true]
    exact ⟨.inr (List.all_eq_true.mpr fun d hd => (one d hd).2.2), decide_eq_true (by omega)⟩
theorem signs_of {S z : Str} (h : ∀ c ∈ tl z, c ∈ tl S) : (signs z).all (inB1 S) = true := by
  refine List.all_eq_true.mpr fun d hd => ?_
  obtain ⟨c, hc, rfl⟩ := List.mem_map.mp hd
  show inS ⟨#[c]⟩ S = true
  rw [inS_one]
  exact decide_eq_true (h c hc)
theorem name_of {z : Str} (l1 : 1 ≤ z.length) (l2 : z.length ≤ 8) (h : ∀ c ∈ tl z, c ∈ tl smallS) : nameB z = true := by
  unfold nameB
  rw [signs_of h, decide_eq_true l1, decide_eq_true l2]; rfl
theorem smallLen : smallS.length = 26 := by decide +kernel
theorem ix_xs {xs : List D} {i : Int} {Q : D → Prop} (hx : ∀ d ∈ xs, ∃ v, d = .int v ∧ 0 ≤ v ∧ v < 1999999973) (h0 : 0 ≤ i) (h1 : i < xs.length) (q : ∀ v, 0 ≤ v → v < 1999999973 → Q (.int v)) : OP (ixD (.list xs) (.int i)) Q := by
  refine ix_all h0 h1 fun d hd => ?_
  obtain ⟨v, rfl, a, b⟩ := hx d hd
  exact q v a b
theorem pick2 {a b : D} {i : Int} {Q : D → Prop} (h0 : 0 ≤ i) (h1 : i < 2) (qa : Q a) (qb : Q b) : OP (ixD (.list [a, b]) (.int i)) Q := by
  refine ix_all h0 (by show i < ((2 : Nat) : Int); omega) fun d hd => ?_
  simp only [List.mem_cons, List.not_mem_nil, or_false] at hd
  rcases hd with rfl | rfl
  · exact qa
  · exact qb
theorem ix_strM {a : Str} {i : Int} {Q : D → Prop} (hz : a.length ≤ 16777216) (h0 : 0 ≤ i) (h1 : i < a.length) (h : ∀ c ∈ tl a, Q (.str ⟨#[c]⟩)) : OP (ixD (.str a) (.int i)) Q := by
  obtain ⟨j, rfl⟩ := Int.eq_ofNat_of_zero_le h0
  have hj : j < (tl a).length := by rw [← len_tl]; omega
  show OP (if a.length ≤ line then (L2.atI (tl a) ((j : Nat) : Int)).map fun c => .str ⟨#[c]⟩ else none) Q
  rw [if_pos hz, atI_nat (List.getElem?_eq_getElem hj)]
  exact h _ (List.getElem_mem hj)
def smL (i : Nat) : Nat := (tl smallS).getD (i % 26) 97
def mkN (A B : Str) (c i : Nat) : Str := A ++ ⟨#[smL ((i + c) % 15)]⟩ ++ B
theorem smL_mem (i : Nat) : smL i ∈ tl smallS := by
  have h : ∀ k < 26, (tl smallS).getD k 97 ∈ tl smallS := by decide +kernel
  exact h _ (Nat.mod_lt _ (by omega))
theorem smL_inj : ∀ i < 26, ∀ j < 26, smL i = smL j → i = j := by decide +kernel
theorem mkN_inj {A B : Str} {c i j : Nat} (hi : i < 15) (hj : j < 15) (e : mkN A B c i = mkN A B c j) : i = j := by
  have e2 := congrArg tl e
  unfold mkN at e2
  simp only [tl_append, List.append_assoc] at e2
  have e3 := List.append_cancel_left e2
  have e4 : smL ((i + c) % 15) = smL ((j + c) % 15) := by
    have := List.append_cancel_right e3
    have e5 : [smL ((i + c) % 15)] = [smL ((j + c) % 15)] := this
    injection e5
  have e6 := smL_inj _ (by omega) _ (by omega) e4
  omega
theorem mkN_name {A B : Str} {c i : Nat} (hl : A.length + B.length ≤ 5) (hA : ∀ c ∈ tl A, c ∈ tl smallS) (hB : ∀ c ∈ tl B, c ∈ tl smallS) : nameB (mkN A B c i) = true := by
  have l : (mkN A B c i).length = A.length + 1 + B.length := by
    unfold mkN
    rw [str_app, str_app, str_one]
  refine name_of (by omega) (by omega) fun d hd => ?_
  unfold mkN at hd
  rw [tl_append, tl_append, List.mem_append, List.mem_append] at hd
  rcases hd with (hd | hd) | hd
  · exact hA d hd
  · have : d = smL ((i + c) % 15) := by simpa [tl] using hd
    rw [this]; exact smL_mem _
  · exact hB d hd
theorem cut_fst (z : Str) (k : Nat) (h : k ≤ z.length) : tl (L2.cutS z none (some (k : Int))) = (tl z).take k := by
  unfold L2.cutS
  show ((tl z).drop (HT.sIx z.length 0 none)).take (HT.sIx z.length z.length (some (k : Int)) - HT.sIx z.length 0 none) = _
  have hk : HT.sIx z.length z.length (some (k : Int)) = k := by rw [HT.sIx_nat]; omega
  rw [hk, HT.sIx_none]
  simp
theorem cut_snd (z : Str) (k : Nat) (h : k ≤ z.length) : tl (L2.cutS z (some (k : Int)) none) = (tl z).drop k := by
  unfold L2.cutS
  show ((tl z).drop (HT.sIx z.length 0 (some (k : Int)))).take (HT.sIx z.length z.length none - HT.sIx z.length 0 (some (k : Int))) = _
  have hk : HT.sIx z.length 0 (some (k : Int)) = k := by rw [HT.sIx_nat]; omega
  rw [hk, HT.sIx_none]
  exact List.take_of_length_le (by rw [List.length_drop, ← len_tl]; omega)
def repN (i : Nat) : Str := repS ⟨#[smL (i / 8)]⟩ (1 + i % 8)
theorem repN_name : ∀ i < 15, nameB (repN i) = true := by decide +kernel
theorem repN_inj : ∀ i < 15, ∀ j < 15, repN i = repN j → i = j := by decide +kernel
theorem ix_sm {i : Int} {Q : D → Prop} (h0 : 0 ≤ i) (h1 : i < 26) (q : Q (.str ⟨#[smL i.toNat]⟩)) : OP (ixD (.str smallS) (.int i)) Q := by
  obtain ⟨j, rfl⟩ := Int.eq_ofNat_of_zero_le h0
  have hj : j < 26 := by omega
  have l26 : (tl smallS).length = 26 := by decide +kernel
  have hjl : j < (tl smallS).length := by omega
  show OP (if smallS.length ≤ line then (L2.atI (tl smallS) ((j : Nat) : Int)).map fun c => .str ⟨#[c]⟩ else none) Q
  have e : smL j = (tl smallS)[j] := by
    unfold smL
    rw [Nat.mod_eq_of_lt hj, List.getD_eq_getElem?_getD, List.getElem?_eq_getElem hjl]
    rfl
  rw [if_pos (by rw [smallLen]; show _ ≤ 16777216; omega), atI_nat (List.getElem?_eq_getElem hjl), ← e]
  exact q
theorem paired_signs : ∀ {ds ys : List D}, Paired (fun _ y => ∃ c ∈ tl smallS, y = .str ⟨#[c]⟩) ds ys → ∃ cs : List Nat, ys = (cs.map fun c => (⟨#[c]⟩ : Str)).map .str ∧ cs.length = ds.length ∧ ∀ c ∈ cs, c ∈ tl smallS
  | _, _, .nil => ⟨[], rfl, rfl, by simp⟩
  | _, _, .cons h r => by
    obtain ⟨c, hc, rfl⟩ := h
    obtain ⟨cs, rfl, l, m⟩ := paired_signs r
    refine ⟨c :: cs, rfl, by simp [l], fun x hx => ?_⟩
    rcases List.mem_cons.mp hx with rfl | hx
    · exact hc
    · exact m x hx
theorem sum_ones {α : Type} : ∀ cs : List α, (cs.map fun _ => 1).sum = cs.length
  | [] => rfl
  | _ :: cs => by
    rw [List.map_cons, List.sum_cons, sum_ones cs, List.length_cons]; omega
theorem joinL_nil : ∀ cs : List Nat, joinL [] (cs.map fun c => [c]) = cs
  | [] => rfl
  | [c] => rfl
  | c :: d :: r => by
    have ih := joinL_nil (d :: r)
    simp only [List.map_cons] at ih ⊢
    show [c] ++ ([] ++ joinL [] ([d] :: r.map fun c => [c])) = _
    rw [ih]; rfl
theorem join_signs (cs : List Nat) : tl (Txt.join ("" : Str) (cs.map fun c => (⟨#[c]⟩ : Str))) = cs := by
  rw [join_eq, tl_join, List.map_map]
  have e : tl ("" : Str) = [] := by decide +kernel
  rw [e]
  exact joinL_nil cs
theorem mul_str {a : Str} {n : Int} {Q : D → Prop} (h : 1 ≤ n ∧ n < 1000 ∧ 1 ≤ a.length ∧ a.length < 1000) (q : Q (.str (repS a n.toNat))) : OP (mulD (.str a) (.int n)) Q := by
  show OP (if 1 ≤ n ∧ n < 1000 ∧ 1 ≤ a.length ∧ a.length < 1000 then some (PyData.str (repS a n.toNat)) else none) Q
  rw [if_pos h]; exact q
/-- the names: numbered, unlike, all names -/
def Names (m : Nat) (v : D) : Prop := ∃ f : Nat → Str, v = .list ((List.range m).map fun i => .str (f i)) ∧ (∀ i < m, nameB (f i) = true) ∧ ∀ i < m, ∀ j < m, f i = f j → i = j
theorem Rows.dd {k : Nat} {ds : List D} (h : Rows k ds) : SortOk (Ev.dd ds) ∧ sortB (Ev.dd ds) = true := by
  have mem : ∀ d ∈ Ev.dd ds, d ∈ ds := fun d hd => (mem_dd h.key d).mp hd
  have sb : sortB (Ev.dd ds) = true := by
    have hs := h.sort
    simp only [sortB, allAlikeB, Bool.and_eq_true, Bool.or_eq_true, List.all_eq_true] at hs ⊢
    refine ⟨⟨fun a ha b hb => hs.1.1 a (mem a ha) b (mem b hb), hs.1.2.imp (fun z d hd => z d (mem d hd)) fun z d hd => z d (mem d hd)⟩, fun d hd => hs.2 d (mem d hd)⟩
  exact ⟨sortB_ok sb, sb⟩
/-- sorted(set(rows)) -/
theorem set_sorted {k : Nat} {ds : List D} (h : Rows k ds) : ∃ S, ssG (.list ds) = some (.list S) ∧ (∀ d ∈ S, d ∈ ds) ∧ S.length ≤ ds.length ∧ adjD S = true := by
  have sb := h.dd.2
  have kb : (Ev.dd ds).all keyB = true := List.all_eq_true.mpr fun d hd => List.all_eq_true.mp h.key d ((mem_dd h.key d).mp hd)
  have pm := sortL_pm (Ev.dd ds)
  refine ⟨sortL (Ev.dd ds), ?_, fun d hd => (mem_dd h.key d).mp (pm.mem_iff.mp hd), by rw [pm.length_eq]; exact dd_len, ?_⟩
  · show (if (setB ds && sortB (Ev.dd ds)) = true then some (PyData.list (sortL (Ev.dd ds))) else none) = _
    rw [h.set, sb]; rfl
  · have kb2 : (sortL (Ev.dd ds)).all keyB = true := List.all_eq_true.mpr fun d hd => List.all_eq_true.mp kb d (pm.mem_iff.mp hd)
    have al2 : allAlikeB (sortL (Ev.dd ds)) = true := by
      simp only [allAlikeB, List.all_eq_true]
      exact fun a ha b hb => allAlike_mem (sortB_alike sb) (pm.mem_iff.mp ha) (pm.mem_iff.mp hb)
    rw [adjD_sort kb2 al2]
    exact ⟨(sortL_perm kb (sortB_alike sb) pm).symm, pm.nodup_iff.mpr (nodup_dd h.key)⟩
theorem adj_strs : ∀ us : List Str, adjD (us.map PyData.str) = adjB us
  | [] => rfl
  | [x] => rfl
  | x :: y :: r => by
    have ih := adj_strs (y :: r)
    simp only [List.map_cons] at ih ⊢
    unfold adjD adjB
    rw [ih, PySem.W.dataLt_str]
    rfl
/-- sorted(names), unlike ones -/
theorem sort_names {zs : List Str} (hz : ∀ z ∈ zs, nameB z = true) (nd : zs.Nodup) : ∃ us : List Str, sortG [.list (zs.map .str)] = some (.list (us.map .str)) ∧ us.Perm zs ∧ adjB us = true := by
  have kb := keyB_strs zs
  have sb : sortB (zs.map PyData.str) = true := sortB_strs fun d hd => by
    obtain ⟨z, hz1, rfl⟩ := List.mem_map.mp hd
    exact ⟨z, rfl, real_name (hz z hz1)⟩
  have pm := sortL_pm (zs.map PyData.str)
  obtain ⟨us, e1, p1⟩ := perm_back _ _ _ pm
  refine ⟨us, ?_, p1, ?_⟩
  · show (if sortB (zs.map PyData.str) = true then some (PyData.list (sortL (zs.map PyData.str))) else none) = _
    rw [if_pos sb, e1]
  · have e2 : sortL (us.map PyData.str) = sortL (zs.map PyData.str) := sortL_perm kb (sortB_alike sb) (p1.map _)
    rw [← adj_strs, adjD_sort (keyB_strs us) (alike_strs us), e2, e1]
    exact ⟨rfl, nodup_strs.mpr (p1.nodup_iff.mpr nd)⟩
abbrev RsT := Int × Str × Str × Int
abbrev BrT := Str × Str × Int
def rsD (r : RsT) : D := .tuple [.int r.1, .str r.2.1, .str r.2.2.1, .int r.2.2.2]
def brD (b : BrT) : D := .tuple [.str b.1, .str b.2.1, .int b.2.2]
def ngT (r : RsT) : RsT := (0 - r.1, r.2)
def EndOk (us : List Str) (x y : Str) : Prop := x ∈ us ∧ y ∈ us ∧ ltS x y = true
def RsOk (us : List Str) (r : RsT) : Prop := 1 ≤ r.1 ∧ r.1 ≤ 1000 ∧ EndOk us r.2.1 r.2.2.1 ∧ 0 ≤ r.2.2.2 ∧ r.2.2.2 ≤ 10
def BrOk (us : List Str) (b : BrT) : Prop := EndOk us b.1 b.2.1 ∧ 0 ≤ b.2.2 ∧ b.2.2 ≤ 10
structure GroundP (m R B : Nat) (us : List Str) (rs : List RsT) (bs : List BrT) : Prop where
  many : us.length = m
  name : ∀ z ∈ us, nameB z = true
  rise : adjB us = true
  rlen : rs.length ≤ R
  rok : ∀ r ∈ rs, RsOk us r
  rrise : adjD ((rs.map ngT).map rsD) = true
  blen : bs.length ≤ B
  bok : ∀ b ∈ bs, BrOk us b
  brise : adjD (bs.map brD) = true
def groundD (us : List Str) (rs : List RsT) (bs : List BrT) : D := .tuple [.tuple (us.map .str), .tuple (rs.map rsD), .tuple (bs.map brD)]
theorem ix_names {us : List Str} {i : Int} {Q : D → Prop} (h0 : 0 ≤ i) (h1 : i < us.length) (q : ∀ h : i.toNat < us.length, Q (.str us[i.toNat])) : OP (ixD (.list (us.map .str)) (.int i)) Q := by
  obtain ⟨k, rfl⟩ := Int.eq_ofNat_of_zero_le h0
  have hk : k < us.length := by omega
  exact ix_list ⟨k, rfl, .str us[k], by simp [hk], q hk⟩
theorem two_ends {us : List Str} (h : adjB us = true) {a b : Int} (a0 : 0 ≤ a) (a1 : a < us.length) (b0 : 0 ≤ b) (b1 : b < us.length) (ne : a ≠ b) (hx : (if b < a then b else a).toNat < us.length) (hy : (if b > a then b else a).toNat < us.length) : EndOk us us[(if b < a then b else a).toNat] us[(if b > a then b else a).toNat] := by
  refine ⟨List.getElem_mem _, List.getElem_mem _, ?_⟩
  have pw := (adj_pw us).mp h
  refine List.pairwise_iff_getElem.mp pw _ _ hx hy ?_
  split <;> split <;> omega
theorem mem_rows {rs : List RsT} {S : List D} (h : ∀ d ∈ S, d ∈ rs.map rsD) : ∃ ts : List RsT, S = ts.map rsD ∧ ∀ t ∈ ts, t ∈ rs := by
  induction S with
  | nil => exact ⟨[], rfl, by simp⟩
  | cons d S ih =>
    obtain ⟨ts, rfl, ht⟩ := ih fun e he => h e (List.mem_cons_of_mem _ he)
    obtain ⟨r, hr, rfl⟩ := List.mem_map.mp (h d List.mem_cons_self)
    exact ⟨r :: ts, rfl, fun t h2 => (List.mem_cons.mp h2).elim (fun e => e ▸ hr) (ht t)⟩
theorem mem_bars {bs : List BrT} {S : List D} (h : ∀ d ∈ S, d ∈ bs.map brD) : ∃ ts : List BrT, S = ts.map brD ∧ ∀ t ∈ ts, t ∈ bs := by
  induction S with
  | nil => exact ⟨[], rfl, by simp⟩
  | cons d S ih =>
    obtain ⟨ts, rfl, ht⟩ := ih fun e he => h e (List.mem_cons_of_mem _ he)
    obtain ⟨r, hr, rfl⟩ := List.mem_map.mp (h d List.mem_cons_self)
    exact ⟨r :: ts, rfl, fun t h2 => (List.mem_cons.mp h2).elim (fun e => e ▸ hr) (ht t)⟩
theorem paired_map {g : D → D} : ∀ {ds ys : List D}, Paired (fun d y => y = g d) ds ys → ys = ds.map g
  | _, _, .nil => rfl
  | _, _, .cons h r => by rw [h, paired_map r]; rfl
theorem max2_int (i j : Int) (Q : D → Prop) : OP (max2G [.int i, .int j]) Q = Q (.int (if j > i then j else i)) := rfl
theorem min2_int (i j : Int) (Q : D → Prop) : OP (min2G [.int i, .int j]) Q = Q (.int (if j < i then j else i)) := rfl
theorem pick3 {a b c : D} {i : Int} {Q : D → Prop} (h0 : 0 ≤ i) (h1 : i < 3) (qa : Q a) (qb : Q b) (qc : Q c) : OP (ixD (.list [a, b, c]) (.int i)) Q := by
  refine ix_all h0 (by show i < ((3 : Nat) : Int); omega) fun d hd => ?_
  simp only [List.mem_cons, List.not_mem_nil, or_false] at hd
  rcases hd with rfl | rfl | rfl
  · exact qa
  · exact qb
  · exact qc
theorem mod_rng (x : Int) {k : Int} (hk : 0 < k) : 0 ≤ x % k ∧ x % k < k := ⟨Int.emod_nonneg _ (by omega), Int.emod_lt_of_pos _ hk⟩
theorem neg_neg (ts : List RsT) : (ts.map ngT).map ngT = ts := by
  rw [List.map_map]
  refine List.map_id'' (fun t => ?_) ts
  obtain ⟨w, r⟩ := t
  show (0 - (0 - w), r) = (w, r)
  congr 1
  omega
theorem neg_rows (ts : List RsT) : (ts.map rsD).map ngD = (ts.map ngT).map rsD := by
  rw [List.map_map, List.map_map]
  rfl
end Ev

set_option Elab.async false
set_option linter.all false
set_option maxRecDepth 100000
set_option maxHeartbeats 4000000
/-! Plain lemmas: names in lists, dicts by names, parts as lists. -/
namespace Ev
open PySem
abbrev Real (z : Str) : Prop := PyData.canLay0 (.str z) = true
theorem lay_strsT {us : List Str} (h : ∀ z ∈ us, Real z) : ∀ d ∈ us.map PyData.str, Lay 0 d := fun d hd => by
  obtain ⟨z, hz, rfl⟩ := List.mem_map.mp hd
  exact Lay.str (h z hz) 0
theorem any_eqv (z : Str) : ∀ us : List Str, ((us.map PyData.str).any fun e => PyData.eqv e (.str z)) = decide (z ∈ us)
  | [] => by simp
  | u :: us => by
    have ih := any_eqv z us
    rw [List.map_cons, List.any_cons, ih]
    have e : PyData.eqv (.str u) (.str z) = decide (u = z) := by by_cases h : u = z <;> simp [PyData.eqv, h]
    rw [e, Bool.eq_iff_iff]
    simp only [Bool.or_eq_true, decide_eq_true_eq, List.mem_cons]
    exact ⟨fun h => h.imp Eq.symm id, fun h => h.imp Eq.symm id⟩
theorem inB_list {us : List Str} (h : ∀ z ∈ us, Real z) {z : Str} (hz : Real z) : inB (.str z) (.list (us.map .str)) = some (decide (z ∈ us)) := by
  have s1 : SeqAt.shaped (.str z) = true := shaped_str hz
  have s2 : SeqAt.shaped (.list (us.map .str)) = true := (Lay.lst (lay_strsT h)).shaped (by omega)
  show (if SeqAt.shaped (.str z) = true ∧ SeqAt.shaped (.list (us.map .str)) = true then some ((us.map PyData.str).any fun e => PyData.eqv e (.str z)) else none) = _
  rw [if_pos ⟨s1, s2⟩, any_eqv]
theorem inB_tup {us : List Str} (h : ∀ z ∈ us, Real z) {z : Str} (hz : Real z) : inB (.str z) (.tuple (us.map .str)) = some (decide (z ∈ us)) := by
  have s1 : SeqAt.shaped (.str z) = true := shaped_str hz
  have s2 : SeqAt.shaped (.tuple (us.map .str)) = true := (Lay.tup (lay_strsT h)).shaped (by omega)
  show (if SeqAt.shaped (.str z) = true ∧ SeqAt.shaped (.tuple (us.map .str)) = true then some ((us.map PyData.str).any fun e => PyData.eqv e (.str z)) else none) = _
  rw [if_pos ⟨s1, s2⟩, any_eqv]
theorem in_ls {us : List Str} (h : ∀ z ∈ us, Real z) {z : Str} (hz : Real z) (Q : D → Prop) : OP (inD (.str z) (.list (us.map .str))) Q = Q (.bool (decide (z ∈ us))) := by
  unfold inD; rw [inB_list h hz]; rfl
theorem in_ts {us : List Str} (h : ∀ z ∈ us, Real z) {z : Str} (hz : Real z) (Q : D → Prop) : OP (inD (.str z) (.tuple (us.map .str))) Q = Q (.bool (decide (z ∈ us))) := by
  unfold inD; rw [inB_tup h hz]; rfl
theorem notin_ls {us : List Str} (h : ∀ z ∈ us, Real z) {z : Str} (hz : Real z) (Q : D → Prop) : OP (notInD (.str z) (.list (us.map .str))) Q = Q (.bool (!decide (z ∈ us))) := by
  unfold notInD; rw [inB_list h hz]; rfl
theorem notin_ts {us : List Str} (h : ∀ z ∈ us, Real z) {z : Str} (hz : Real z) (Q : D → Prop) : OP (notInD (.str z) (.tuple (us.map .str))) Q = Q (.bool (!decide (z ∈ us))) := by
  unfold notInD; rw [inB_tup h hz]; rfl
/-! dicts by names -/
theorem key_str {a b : Str} : (keyOf (.str a) = keyOf (.str b)) ↔ a = b := by
  show (some (Sum.inr a : L2.Key) = some (Sum.inr b)) ↔ _
  constructor
  · intro h; injection h with h; injection h
  · rintro rfl; rfl
def byN (f : Str → D) (us : List Str) : List (D × D) := us.map fun n => (.str n, f n)
theorem get_byN {f : Str → D} {n : Str} : ∀ {us : List Str}, n ∈ us → getK (byN f us) (.inr n) = some (f n)
  | [], h => by cases h
  | u :: us, h => by
    show (if keyOf (.str u) = some (.inr n) then some (f u) else getK (byN f us) (.inr n)) = _
    by_cases e : u = n
    · subst e
      exact if_pos rfl
    · rw [if_neg (fun z => e (key_str.mp (z.trans rfl)))]
      rcases List.mem_cons.mp h with rfl | h
      · exact absurd rfl e
      · exact get_byN h
theorem ix_byN {f : Str → D} {us : List Str} {n : Str} (h : n ∈ us) (Q : D → Prop) : OP (ixD (.dict (byN f us)) (.str n)) Q = Q (f n) := by
  show OP (getK (byN f us) (.inr n)) Q = _
  rw [get_byN h]; rfl
theorem put_byN {f : Str → D} {us : List Str} {n : Str} (h : n ∈ us) (v : D) : putK' (byN f us) (.str n) v = byN (fun m => if m = n then v else f m) us := by
  unfold putK'
  have e : ((byN f us).any fun e => decide (keyOf e.1 = keyOf (.str n))) = true := List.any_eq_true.mpr ⟨(.str n, f n), List.mem_map.mpr ⟨n, h, rfl⟩, decide_eq_true rfl⟩
  rw [if_pos e]
  unfold byN
  rw [List.map_map]
  refine List.map_congr_left fun m _ => ?_
  show (if keyOf (.str m) = keyOf (.str n) then (PyData.str m, v) else (.str m, f m)) = (.str m, if m = n then v else f m)
  by_cases q : m = n
  · rw [if_pos (key_str.mpr q), if_pos q]
  · rw [if_neg (fun z => q (key_str.mp z)), if_neg q]
theorem set_byN {f : Str → D} {us : List Str} {n : Str} (h : n ∈ us) (hl : us.length < 16777216) (v : D) (Q : D → Prop) : OP (setG (.str n) v (.dict (byN f us))) Q = Q (.dict (byN (fun m => if m = n then v else f m) us)) := by
  show OP (if (byN f us).length < line then some (.dict (putK' (byN f us) (.str n) v)) else none) Q = _
  rw [if_pos (by unfold byN; rw [List.length_map]; exact hl), put_byN h]; rfl
theorem put_new {f : Str → D} {us : List Str} {n : Str} (h : n ∉ us) (v : D) : putK' (byN f us) (.str n) v = byN f us ++ [(.str n, v)] := by
  unfold putK'
  have e : ((byN f us).any fun e => decide (keyOf e.1 = keyOf (.str n))) = false := by
    rw [List.any_eq_false]
    intro p hp
    obtain ⟨m, hm, rfl⟩ := List.mem_map.mp hp
    rw [decide_eq_true_eq]
    exact fun z => h (key_str.mp z ▸ hm)
  rw [e]; rfl
theorem putAll_byN (f : Str → D) : ∀ (vs us : List Str), (us ++ vs).Nodup → putAll (byN f us) (byN f vs) = byN f (us ++ vs)
  | [], us, _ => by rw [List.append_nil]; rfl
  | v :: vs, us, h => by
    show putAll (putK' (byN f us) (.str v) (f v)) (byN f vs) = _
    have hv : v ∉ us := fun hm => (List.nodup_append.mp h).2.2 v hm v List.mem_cons_self rfl
    rw [put_new hv]
    have e : byN f us ++ [(PyData.str v, f v)] = byN f (us ++ [v]) := by unfold byN; rw [List.map_append]; rfl
    have e2 : us ++ v :: vs = us ++ [v] ++ vs := by simp
    rw [e, putAll_byN f vs (us ++ [v]) (e2 ▸ h), ← e2]
theorem pairs_byN (f : Str → D) : ∀ us : List Str, pairsOf (us.map fun n => .tuple [.str n, f n]) = some (byN f us)
  | [] => rfl
  | u :: us => by
    show ((pairOf (.tuple [.str u, f u])).bind fun q => (pairsOf (us.map fun n => .tuple [.str n, f n])).map (q :: ·)) = _
    rw [pairs_byN f us]; rfl
/-- dict([(n, f n) for n in us]) -/
theorem dict_byN (f : Str → D) {us : List Str} (nd : us.Nodup) (hl : us.length ≤ 16777216) (Q : D → Prop) : OP (dictG [.list (us.map fun n => .tuple [.str n, f n])]) Q = Q (.dict (byN f us)) := by
  show OP (if (us.map fun n => PyData.tuple [.str n, f n]).length ≤ line then (pairsOf (us.map fun n => .tuple [.str n, f n])).map fun kvs => .dict (putAll [] kvs) else none) Q = _
  rw [if_pos (by rw [List.length_map]; exact hl), pairs_byN]
  show Q (.dict (putAll (byN f []) (byN f us))) = _
  rw [putAll_byN f us [] (by simpa using nd)]; rfl
theorem byN_congr {f g : Str → D} {us : List Str} (h : ∀ n ∈ us, f n = g n) : byN f us = byN g us := List.map_congr_left fun n hn => by rw [h n hn]
def ofStr (f : Str → D) : D → D
  | .str z => f z
  | _ => .none
theorem map_ofStr (f : Str → D) (us : List Str) : (us.map PyData.str).map (ofStr f) = us.map f := by rw [List.map_map]; rfl
/-! comprehensions with a condition -/
theorem compF_eq {i : Nat} {tt : Env → Res Bool} {elt : Env → Res D} {ρ : Env} {c : D → Bool} {g : D → D} : ∀ {ds : List D}, (∀ d ∈ ds, tt (ρ.set i (some d)) = .ok (c d) ∧ (c d = true → elt (ρ.set i (some d)) = .ok (g d))) → compL (cTg false [i]) tt elt (ρ.set i none) ds = .ok ((ds.filter c).map g)
  | [], _ => rfl
  | d :: ds, h => by
    have ih := compF_eq (i := i) (tt := tt) (elt := elt) (ρ := ρ) (c := c) (g := g) (ds := ds) fun d' hd => h d' (by simp [hd])
    obtain ⟨h0, h1⟩ := h d (by simp)
    have e : cTg false [i] d (ρ.set i none) = .ok (ρ.set i (some d)) := by
      show Res.ok ((ρ.set i none).set i (some d)) = _
      rw [List.set_set]
    have ec : compL (cTg false [i]) tt elt (ρ.set i none) (d :: ds) = (cTg false [i] d (ρ.set i none) >>= fun ρ1 => tt ρ1 >>= fun b => if b = true then (elt ρ1 >>= fun y => compL (cTg false [i]) tt elt (ρ.set i none) ds >>= fun ys => .ok (y :: ys)) else compL (cTg false [i]) tt elt (ρ.set i none) ds) := rfl
    rw [ec, e]
    show (tt (ρ.set i (some d)) >>= fun b => if b = true then (elt (ρ.set i (some d)) >>= fun y => compL (cTg false [i]) tt elt (ρ.set i none) ds >>= fun ys => .ok (y :: ys)) else compL (cTg false [i]) tt elt (ρ.set i none) ds) = _
    rw [h0]
    show (if c d = true then (elt (ρ.set i (some d)) >>= fun y => compL (cTg false [i]) tt elt (ρ.set i none) ds >>= fun ys => .ok (y :: ys)) else compL (cTg false [i]) tt elt (ρ.set i none) ds) = _
    rw [ih]
    by_cases q : c d = true
    · rw [if_pos q, h1 q, List.filter_cons_of_pos q]; rfl
    · rw [if_neg q, List.filter_cons_of_neg q]
theorem wp_compF {i : Nat} {src : Env → Res (List D)} {tt : Env → Res Bool} {elt : Env → Res D} {ρ : Env} {Q : D → Prop} (c : D → Bool) (g : D → D) (h : WP (src ρ) fun ds => ds.length ≤ line ∧ (∀ d ∈ ds, WP (tt (ρ.set i (some d))) (fun b => b = c d) ∧ (c d = true → WP (elt (ρ.set i (some d))) fun v => v = g d)) ∧ Q (.list ((ds.filter c).map g))) :
    WP (cComp [i] false [i] src tt elt ρ) Q := by
  simp only [WP_iff] at h ⊢
  show WPb (src ρ >>= fun ds => if ds.length ≤ line then (nx (compL (cTg false [i]) tt elt (wipeE ρ [i]) ds) >>= fun ys => .ok (.list ys)) else .bad) Q
  rw [b_WP_bind]
  refine WPb.imp h fun ds ⟨h1, h2, h3⟩ => ?_
  have e : compL (cTg false [i]) tt elt (wipeE ρ [i]) ds = .ok ((ds.filter c).map g) := compF_eq fun d hd => by
    obtain ⟨a, b⟩ := h2 d hd
    exact ⟨WP.ok ⟨a⟩, fun q => WP.ok ⟨b q⟩⟩
  rw [if_pos h1, e]
  exact h3
theorem compTF_eq {own is : List Nat} {tt : Env → Res Bool} {elt : Env → Res D} {ρ : Env} {c : D → Bool} {g : D → D} : ∀ {ds : List D}, (∀ d ∈ ds, ∃ xs, d = .tuple xs ∧ xs.length = is.length ∧ tt (setAll (wipeE ρ own) is xs) = .ok (c d) ∧ (c d = true → elt (setAll (wipeE ρ own) is xs) = .ok (g d))) → compL (cTg true is) tt elt (wipeE ρ own) ds = .ok ((ds.filter c).map g)
  | [], _ => rfl
  | d :: ds, h => by
    have ih := compTF_eq (own := own) (is := is) (tt := tt) (elt := elt) (ρ := ρ) (c := c) (g := g) (ds := ds) fun d' hd => h d' (by simp [hd])
    obtain ⟨xs, rfl, hl, h0, h1⟩ := h d (by simp)
    have e : cTg true is (.tuple xs) (wipeE ρ own) = .ok (setAll (wipeE ρ own) is xs) := if_pos hl
    have ec : compL (cTg true is) tt elt (wipeE ρ own) (.tuple xs :: ds) = (cTg true is (.tuple xs) (wipeE ρ own) >>= fun ρ1 => tt ρ1 >>= fun b => if b = true then (elt ρ1 >>= fun y => compL (cTg true is) tt elt (wipeE ρ own) ds >>= fun ys => .ok (y :: ys)) else compL (cTg true is) tt elt (wipeE ρ own) ds) := rfl
    rw [ec, e]
    show (tt (setAll (wipeE ρ own) is xs) >>= fun b => if b = true then (elt (setAll (wipeE ρ own) is xs) >>= fun y => compL (cTg true is) tt elt (wipeE ρ own) ds >>= fun ys => .ok (y :: ys)) else compL (cTg true is) tt elt (wipeE ρ own) ds) = _
    rw [h0]
    show (if c (.tuple xs) = true then (elt (setAll (wipeE ρ own) is xs) >>= fun y => compL (cTg true is) tt elt (wipeE ρ own) ds >>= fun ys => .ok (y :: ys)) else compL (cTg true is) tt elt (wipeE ρ own) ds) = _
    rw [ih]
    by_cases q : c (.tuple xs) = true
    · rw [if_pos q, h1 q, List.filter_cons_of_pos q]; rfl
    · rw [if_neg q, List.filter_cons_of_neg q]
theorem wp_compTF {own is : List Nat} {src : Env → Res (List D)} {tt : Env → Res Bool} {elt : Env → Res D} {ρ : Env} {Q : D → Prop} (c : D → Bool) (g : D → D) (h : WP (src ρ) fun ds => ds.length ≤ line ∧ (∀ d ∈ ds, ∃ xs, d = .tuple xs ∧ xs.length = is.length ∧ WP (tt (setAll (wipeE ρ own) is xs)) (fun b => b = c d) ∧ (c d = true → WP (elt (setAll (wipeE ρ own) is xs)) fun v => v = g d)) ∧ Q (.list ((ds.filter c).map g))) :
    WP (cComp own true is src tt elt ρ) Q := by
  simp only [WP_iff] at h ⊢
  show WPb (src ρ >>= fun ds => if ds.length ≤ line then (nx (compL (cTg true is) tt elt (wipeE ρ own) ds) >>= fun ys => .ok (.list ys)) else .bad) Q
  rw [b_WP_bind]
  refine WPb.imp h fun ds ⟨h1, h2, h3⟩ => ?_
  have e : compL (cTg true is) tt elt (wipeE ρ own) ds = .ok ((ds.filter c).map g) := compTF_eq fun d hd => by
    obtain ⟨xs, e0, hl, a, b⟩ := h2 d hd
    exact ⟨xs, e0, hl, WP.ok ⟨a⟩, fun q => WP.ok ⟨b q⟩⟩
  rw [if_pos h1, e]
  exact h3
/-! names sorted -/
noncomputable def sortN (zs : List Str) : List Str := (perm_back PyData.str _ zs (sortL_pm (zs.map PyData.str))).choose
theorem sortN_eq (zs : List Str) : sortL (zs.map PyData.str) = (sortN zs).map .str := (perm_back PyData.str _ zs (sortL_pm (zs.map PyData.str))).choose_spec.1
theorem sortN_pm (zs : List Str) : (sortN zs).Perm zs := (perm_back PyData.str _ zs (sortL_pm (zs.map PyData.str))).choose_spec.2
theorem sortN_perm {zs ys : List Str} (p : ys.Perm zs) : sortN ys = sortN zs := str_inj (by rw [← sortN_eq, ← sortN_eq]; exact sortL_perm (keyB_strs zs) (alike_strs zs) (p.map _))
theorem sortN_mem {zs : List Str} {z : Str} : z ∈ sortN zs ↔ z ∈ zs := (sortN_pm zs).mem_iff
theorem sortN_len (zs : List Str) : (sortN zs).length = zs.length := (sortN_pm zs).length_eq
theorem sortN_one (z : Str) : sortN [z] = [z] := List.perm_singleton.mp (sortN_pm [z])
theorem sort_ls {zs : List Str} (h : ∀ z ∈ zs, Real z) (Q : D → Prop) : OP (sortG [.list (zs.map .str)]) Q = Q (.list ((sortN zs).map .str)) := by
  have sb : sortB (zs.map PyData.str) = true := sortB_strs fun d hd => by
    obtain ⟨z, hz, rfl⟩ := List.mem_map.mp hd
    exact ⟨z, rfl, h z hz⟩
  show OP (if sortB (zs.map PyData.str) = true then some (PyData.list (sortL (zs.map PyData.str))) else none) Q = _
  rw [if_pos sb, sortN_eq]; rfl
theorem sortN_rise {us : List Str} (h : adjB us = true) : sortN us = us := by
  have := (adjD_sort (keyB_strs us) (alike_strs us)).mp ((adj_strs us).trans h)
  exact str_inj (by rw [← sortN_eq, ← this.1])
/-! rows of names, as tuples -/
def tupN (p : List Str) : D := .tuple (p.map .str)
def lstN (p : List Str) : D := .list (p.map .str)
theorem alike_ss : ∀ xs ys : List Str, PySem.W.alikeAll (xs.map .str) (ys.map .str) = true
  | [], _ => by simp [PySem.W.alikeAll]
  | _ :: _, [] => by simp [PySem.W.alikeAll]
  | x :: xs, y :: ys => by
    have := alike_ss xs ys
    simp [PySem.W.alikeAll, PySem.W.alike, this]
theorem tk_strs : ∀ xs : List Str, tkAll (xs.map .str) = some (xs.map NestedKey.text)
  | [] => rfl
  | x :: xs => by
    show ((tkD (.str x)).bind fun k => (tkAll (xs.map .str)).map (k :: ·)) = _
    rw [tk_strs xs]; rfl
theorem depth_strs : ∀ xs : List Str, NestedKey.depthAll (xs.map NestedKey.text) ≤ 1
  | [] => by simp [NestedKey.depthAll]
  | x :: xs => by
    have := depth_strs xs
    simp [NestedKey.depthAll, NestedKey.depth]
    omega
/-- rows of names that are no empty ones -/
structure RowsN (ps : List (List Str)) : Prop where
  real : ∀ p ∈ ps, ∀ z ∈ p, Real z
  ne : ∀ p ∈ ps, p ≠ []
theorem RowsN.key {ps : List (List Str)} : (ps.map tupN).all keyB = true := by
  rw [List.all_eq_true]
  intro d hd
  obtain ⟨p, _, rfl⟩ := List.mem_map.mp hd
  show ((tkAll (p.map .str)).map NestedKey.tup).isSome = true
  rw [tk_strs]; rfl
theorem RowsN.alike {ps : List (List Str)} : allAlikeB (ps.map tupN) = true := by
  simp only [allAlikeB, List.all_eq_true]
  intro a ha b hb
  obtain ⟨p, _, rfl⟩ := List.mem_map.mp ha
  obtain ⟨q, _, rfl⟩ := List.mem_map.mp hb
  show PySem.W.alike (.tuple (p.map .str)) (.tuple (q.map .str)) = true
  simp [PySem.W.alike, alike_ss]
theorem RowsN.lay {ps : List (List Str)} (h : RowsN ps) : ∀ d ∈ ps.map tupN, Lay 1 d := fun d hd => by
  obtain ⟨p, hp, rfl⟩ := List.mem_map.mp hd
  exact Lay.tup (lay_strsT (h.real p hp))
theorem RowsN.sort {ps : List (List Str)} (h : RowsN ps) : sortB (ps.map tupN) = true := by
  unfold sortB
  rw [Bool.and_eq_true, Bool.and_eq_true, Bool.or_eq_true]
  refine ⟨⟨RowsN.alike, .inl ?_⟩, List.all_eq_true.mpr fun d hd => (h.lay d hd).shaped (by decide)⟩
  rw [List.all_eq_true]
  intro d hd
  obtain ⟨p, hp, rfl⟩ := List.mem_map.mp hd
  cases p with
  | nil => exact absurd rfl (h.ne [] hp)
  | cons z p => rfl
theorem RowsN.set {ps : List (List Str)} (hl : ps.length < 64) : setB (ps.map tupN) = true := by
  unfold setB
  rw [Bool.and_eq_true, Bool.or_eq_true]
  refine ⟨.inr ?_, decide_eq_true (by rw [List.length_map]; exact hl)⟩
  rw [List.all_eq_true]
  intro d hd
  obtain ⟨p, _, rfl⟩ := List.mem_map.mp hd
  show ((tkD (.tuple (p.map .str))).any fun k => decide (k.depth ≤ 8)) = true
  have e : tkD (.tuple (p.map .str)) = some (.tup (p.map NestedKey.text)) := by
    show (tkAll (p.map .str)).map NestedKey.tup = _
    rw [tk_strs]; rfl
  rw [e]
  have := depth_strs p
  show decide ((NestedKey.tup (p.map NestedKey.text)).depth ≤ 8) = true
  rw [decide_eq_true_eq]
  simp [NestedKey.depth]
  omega
/-- sorted(set(rows)): the rows without repeats, in order -/
theorem ss_rows {ps qs : List (List Str)} (h : RowsN ps) (hl : ps.length < 64) (nd : qs.Nodup) (m : ∀ q, q ∈ qs ↔ q ∈ ps) (Q : D → Prop) : OP (ssG (.list (ps.map tupN))) Q = Q (.list (sortL (qs.map tupN))) := by
  have inj : ∀ {a b : List Str}, tupN a = tupN b → a = b := fun {a b} e => str_inj (by
    have e' : PyData.tuple (a.map .str) = .tuple (b.map .str) := e
    injection e')
  have pm : (dd (ps.map tupN)).Perm (qs.map tupN) := (List.perm_ext_iff_of_nodup (nodup_dd RowsN.key) (List.pairwise_map.mpr (nd.imp fun hne e => hne (inj e)))).mpr fun d => by
    rw [mem_dd RowsN.key, List.mem_map, List.mem_map]
    constructor
    · rintro ⟨p, hp, rfl⟩; exact ⟨p, (m p).mpr hp, rfl⟩
    · rintro ⟨p, hp, rfl⟩; exact ⟨p, (m p).mp hp, rfl⟩
  have hq : RowsN qs := ⟨fun p hp => h.real p ((m p).mp hp), fun p hp => h.ne p ((m p).mp hp)⟩
  have sb : sortB (dd (ps.map tupN)) = true := by
    have hs := hq.sort
    simp only [sortB, allAlikeB, Bool.and_eq_true, Bool.or_eq_true, List.all_eq_true] at hs ⊢
    exact ⟨⟨fun a ha b hb => hs.1.1 a (pm.mem_iff.mp ha) b (pm.mem_iff.mp hb), hs.1.2.imp (fun z d hd => z d (pm.mem_iff.mp hd)) fun z d hd => z d (pm.mem_iff.mp hd)⟩, fun d hd => hs.2 d (pm.mem_iff.mp hd)⟩
  show OP (if (setB (ps.map tupN) && sortB (dd (ps.map tupN))) = true then some (PyData.list (sortL (dd (ps.map tupN)))) else none) Q = _
  rw [RowsN.set hl, sb, sortL_perm (es := dd (ps.map tupN)) RowsN.key RowsN.alike pm]
  rfl
theorem sort_rows {ps : List (List Str)} (h : RowsN ps) (Q : D → Prop) : OP (sortG [.list (ps.map tupN)]) Q = Q (.list (sortL (ps.map tupN))) := by
  show OP (if sortB (ps.map tupN) = true then some (PyData.list (sortL (ps.map tupN))) else none) Q = _
  rw [if_pos h.sort]; rfl
end Ev

set_option Elab.async false
set_option linter.all false
set_option maxRecDepth 100000
set_option maxHeartbeats 4000000
/-! Plain lemmas: rows, their words, what rules tell. -/
namespace Ev
open PySem
open TL (tl)
abbrev Ws := List (Str × Str)
def gpT (p : Str × Str) : D := .tuple [.str p.1, .str p.2]
def gpK (p : Str × Str) : D × D := (.str p.1, .str p.2)
def rwD (z : Str) (ws : Ws) : D := .tuple [.str z, .tuple (ws.map gpT)]
def wOf : Ws → Str → Option Str
  | [], _ => none
  | p :: ps, f => if p.1 = f then some p.2 else wOf ps f
def wD : Option Str → D
  | some w => .str w
  | none => .none
structure RowW (ws : Ws) : Prop where
  nd : (ws.map (·.1)).Nodup
  real : ∀ p ∈ ws, Real p.2
  len : ∀ p ∈ ws, 1 ≤ p.2.length ∧ p.2.length ≤ 60
  few : ws.length ≤ 60
theorem wOf_mem : ∀ {ws : Ws} {f w : Str}, wOf ws f = some w → (f, w) ∈ ws
  | [], _, _, h => by cases h
  | p :: ps, f, w, h => by
    unfold wOf at h
    split at h
    · rename_i e
      cases h
      subst e
      exact List.mem_cons_self
    · exact List.mem_cons_of_mem _ (wOf_mem h)
theorem RowW.one {ws : Ws} (h : RowW ws) {f w : Str} (e : wOf ws f = some w) : Real w ∧ 1 ≤ w.length ∧ w.length ≤ 60 := ⟨h.real _ (wOf_mem e), h.len _ (wOf_mem e)⟩
theorem get_ws (f : Str) : ∀ ws : Ws, getK (ws.map gpK) (.inr f) = (wOf ws f).map .str
  | [] => rfl
  | p :: ps => by
    have ih := get_ws f ps
    show (if keyOf (.str p.1) = some (.inr f) then some (PyData.str p.2) else getK (ps.map gpK) (.inr f)) = _
    unfold wOf
    by_cases e : p.1 = f
    · rw [if_pos e, if_pos (by subst e; rfl)]; rfl
    · rw [if_neg e, if_neg (fun z => e (key_str.mp (z.trans rfl))), ih]
theorem pairs_ws : ∀ ws : Ws, pairsOf (ws.map gpT) = some (ws.map gpK)
  | [] => rfl
  | p :: ps => by
    show ((pairOf (gpT p)).bind fun q => (pairsOf (ps.map gpT)).map (q :: ·)) = _
    rw [pairs_ws ps]; rfl
theorem put_ws {us : Ws} {p : Str × Str} (h : p.1 ∉ us.map (·.1)) : putK' (us.map gpK) (.str p.1) (.str p.2) = (us ++ [p]).map gpK := by
  unfold putK'
  have e : ((us.map gpK).any fun e => decide (keyOf e.1 = keyOf (.str p.1))) = false := by
    rw [List.any_eq_false]
    intro q hq
    obtain ⟨m, hm, rfl⟩ := List.mem_map.mp hq
    rw [decide_eq_true_eq]
    exact fun z => h (List.mem_map.mpr ⟨m, hm, key_str.mp z⟩)
  rw [e, List.map_append]; rfl
theorem putAll_ws : ∀ (vs us : Ws), ((us ++ vs).map (·.1)).Nodup → putAll (us.map gpK) (vs.map gpK) = (us ++ vs).map gpK
  | [], us, _ => by rw [List.append_nil]; rfl
  | v :: vs, us, h => by
    show putAll (putK' (us.map gpK) (.str v.1) (.str v.2)) (vs.map gpK) = _
    have hv : v.1 ∉ us.map (·.1) := fun hm => by
      rw [List.map_append, List.map_cons] at h
      exact (List.nodup_append.mp h).2.2 v.1 hm v.1 List.mem_cons_self rfl
    have e2 : us ++ v :: vs = us ++ [v] ++ vs := by simp
    rw [put_ws hv, putAll_ws vs (us ++ [v]) (e2 ▸ h), ← e2]
theorem dict_ws {ws : Ws} (h : RowW ws) (Q : D → Prop) : OP (dictG [.tuple (ws.map gpT)]) Q = Q (.dict (ws.map gpK)) := by
  have few := h.few
  show OP (if (ws.map gpT).length ≤ line then (pairsOf (ws.map gpT)).map fun kvs => .dict (putAll [] kvs) else none) Q = _
  rw [if_pos (by rw [List.length_map]; show _ ≤ 16777216; omega), pairs_ws]
  show Q (.dict (putAll (([] : Ws).map gpK) (ws.map gpK))) = _
  rw [putAll_ws ws [] (by simpa using h.nd)]; rfl
theorem dget_ws (ws : Ws) (f : Str) (Q : D → Prop) : OP (dgetD (.dict (ws.map gpK)) (.str f)) Q = Q (wD (wOf ws f)) := by
  show OP (some ((getK (ws.map gpK) (.inr f)).getD .none)) Q = _
  rw [get_ws]
  cases wOf ws f <;> rfl
/-- the word, or no signs -/
def wE : Option Str → Str
  | some w => w
  | none => ""
/-! rules -/
inductive Rl where
  | never (f : Str)
  | begin (f : Str) (n : Nat) (w : Int)
  | both (f g : Str) (w : Int)
  | same (f : Str) (w : Int)
def rlD : Rl → D
  | .never f => .tuple [.str "never", .str f]
  | .begin f n w => .tuple [.str "begin", .str f, .int n, .int w]
  | .both f g w => .tuple [.str "both", .str f, .str g, .int w]
  | .same f w => .tuple [.str "same", .str f, .int w]
def eqW : Option Str → Option Str → Bool
  | some x, some y => decide (x = y)
  | _, _ => false
def neW : Option Str → Option Str → Bool
  | some x, some y => !decide (x = y)
  | _, _ => false
def beW (n : Nat) : Option Str → Option Str → Bool
  | some x, some y => decide (n ≤ x.length) && decide (n ≤ y.length) && decide ((tl x).take n = (tl y).take n)
  | _, _ => false
def tellB (r : Rl) (a b : Ws) : Bool := match r with
  | .never f => neW (wOf a f) (wOf b f)
  | .begin f n _ => beW n (wOf a f) (wOf b f)
  | .both f g _ => eqW (wOf a f) (wOf b f) && eqW (wOf a g) (wOf b g)
  | .same f _ => eqW (wOf a f) (wOf b f)
theorem eqW_sym (x y : Option Str) : eqW x y = eqW y x := by
  cases x <;> cases y <;> try rfl
  unfold eqW
  rw [Bool.eq_iff_iff, decide_eq_true_eq, decide_eq_true_eq]
  exact ⟨Eq.symm, Eq.symm⟩
theorem neW_sym (x y : Option Str) : neW x y = neW y x := by
  cases x <;> cases y <;> try rfl
  unfold neW
  rw [Bool.eq_iff_iff, Bool.not_eq_true', Bool.not_eq_true', decide_eq_false_iff_not, decide_eq_false_iff_not]
  exact ⟨fun h e => h e.symm, fun h e => h e.symm⟩
theorem beW_sym (n : Nat) (x y : Option Str) : beW n x y = beW n y x := by
  cases x <;> cases y <;> try rfl
  rename_i x y
  unfold beW
  rw [Bool.eq_iff_iff]
  simp only [Bool.and_eq_true, decide_eq_true_eq]
  exact ⟨fun ⟨⟨a, b⟩, c⟩ => ⟨⟨b, a⟩, c.symm⟩, fun ⟨⟨a, b⟩, c⟩ => ⟨⟨b, a⟩, c.symm⟩⟩
theorem tellB_sym (r : Rl) (a b : Ws) : tellB r a b = tellB r b a := by
  cases r with
  | never f => exact neW_sym _ _
  | begin f n w => exact beW_sym _ _ _
  | both f g w =>
    show (eqW _ _ && eqW _ _) = (eqW _ _ && eqW _ _)
    rw [eqW_sym (wOf a f), eqW_sym (wOf a g)]
  | same f w => exact eqW_sym _ _
theorem min_len (i j : Int) (Q : D → Prop) : OP (min2G [.int i, .int j]) Q = Q (.int (if j < i then j else i)) := rfl
theorem cut_eq (x y : Str) (n : Nat) (hx : n ≤ x.length) (hy : n ≤ y.length) : decide (L2.cutS x none (some (n : Int)) = L2.cutS y none (some (n : Int))) = decide ((tl x).take n = (tl y).take n) := by
  rw [Bool.eq_iff_iff, decide_eq_true_eq, decide_eq_true_eq, ← cut_fst x n hx, ← cut_fst y n hy]
  exact ⟨fun h => by rw [h], fun h => TL.ext_tl h⟩
theorem str_empty {w : Str} (h : 1 ≤ w.length) : ¬ w = ("" : Str) := fun e => by
  rw [e] at h
  exact absurd h (by decide +kernel)
end Ev

set_option Elab.async false
set_option linter.all false
set_option maxRecDepth 100000
set_option maxHeartbeats 4000000
/-! Plain lemmas: names put together step by step, where bars part them. -/
namespace Ev.Pt
open PySem
section
variable {names : List Str} {bars : List BrT}
abbrev fR (r : RsT) : Str := r.2.1
abbrev gR (r : RsT) : Str := r.2.2.1
def cross (p q : List Str) (b : BrT) : Bool := (decide (b.1 ∈ p) && decide (b.2.1 ∈ q)) || (decide (b.1 ∈ q) && decide (b.2.1 ∈ p))
structure Jn where
  ps : Parts
  kept : List RsT
  bard : List (RsT × BrT)
def bstep (bars : List BrT) (s : Jn) (r : RsT) : Jn :=
  if partOf s.ps (fR r) = partOf s.ps (gR r) then s
  else match bars.find? (cross (partOf s.ps (fR r)) (partOf s.ps (gR r))) with
    | some b => ⟨s.ps, s.kept, s.bard ++ [(r, b)]⟩
    | none => ⟨join s.ps (fR r) (gR r), s.kept ++ [r], s.bard⟩
def brun (bars : List BrT) (s : Jn) (rs : List RsT) : Jn := rs.foldl (bstep bars) s
def j0 (names : List Str) : Jn := ⟨singles names, [], []⟩
def bgone (bars : List BrT) (names : List Str) (rs : List RsT) : Jn := brun bars (j0 names) rs
theorem brun_app (s : Jn) (a b : List RsT) : brun bars s (a ++ b) = brun bars (brun bars s a) b := List.foldl_append
theorem bgone_snoc (rs : List RsT) (r : RsT) : bgone bars names (rs ++ [r]) = bstep bars (bgone bars names rs) r := by
  unfold bgone
  rw [brun_app]; rfl
theorem bgone_take (rs : List RsT) {j : Nat} {r : RsT} (h : rs[j]? = some r) : bgone bars names (rs.take (j + 1)) = bstep bars (bgone bars names (rs.take j)) r := by
  rw [List.take_succ, h]
  exact bgone_snoc _ _
/-- what is kept and barred later is put behind -/
theorem brun_ext : ∀ (rs : List RsT) (s : Jn), ∃ K B, (brun bars s rs).kept = s.kept ++ K ∧ (brun bars s rs).bard = s.bard ++ B ∧ (∀ r ∈ K, r ∈ rs) ∧ ∀ p ∈ B, p.1 ∈ rs
  | [], s => ⟨[], [], by simp [brun], by simp [brun], by simp, by simp⟩
  | r :: rs, s => by
    obtain ⟨K, B, h1, h2, h3, h4⟩ := brun_ext rs (bstep bars s r)
    have e : brun bars s (r :: rs) = brun bars (bstep bars s r) rs := rfl
    rw [e]
    unfold bstep at h1 h2 ⊢
    split at h1
    · rename_i c
      rw [if_pos c] at h2 ⊢
      exact ⟨K, B, h1, h2, fun x hx => List.mem_cons_of_mem _ (h3 x hx), fun x hx => List.mem_cons_of_mem _ (h4 x hx)⟩
    · rename_i c
      rw [if_neg c] at h2 ⊢
      split at h1
      · rename_i b hb
        rw [hb] at h2
        refine ⟨K, (r, b) :: B, h1, by rw [h2]; simp, fun x hx => List.mem_cons_of_mem _ (h3 x hx), fun x hx => ?_⟩
        rcases List.mem_cons.mp hx with rfl | hx
        · exact List.mem_cons_self
        · exact List.mem_cons_of_mem _ (h4 x hx)
      · rename_i hb
        rw [hb] at h2
        refine ⟨r :: K, B, by rw [h1]; simp, h2, fun x hx => ?_, fun x hx => List.mem_cons_of_mem _ (h4 x hx)⟩
        rcases List.mem_cons.mp hx with rfl | hx
        · exact List.mem_cons_self
        · exact List.mem_cons_of_mem _ (h3 x hx)
theorem bgone_ext (a b : List RsT) : ∃ K B, (bgone bars names (a ++ b)).kept = (bgone bars names a).kept ++ K ∧ (bgone bars names (a ++ b)).bard = (bgone bars names a).bard ++ B ∧ (∀ r ∈ K, r ∈ b) ∧ ∀ p ∈ B, p.1 ∈ b := by
  unfold bgone
  rw [brun_app]
  exact brun_ext b _
theorem bgone_sub (a : List RsT) : (∀ r ∈ (bgone bars names a).kept, r ∈ a) ∧ ∀ p ∈ (bgone bars names a).bard, p.1 ∈ a := by
  obtain ⟨K, B, h1, h2, h3, h4⟩ := bgone_ext (bars := bars) (names := names) [] a
  rw [List.nil_append] at h1 h2
  have e1 : (bgone bars names []).kept = [] := rfl
  have e2 : (bgone bars names []).bard = [] := rfl
  rw [e1, List.nil_append] at h1
  rw [e2, List.nil_append] at h2
  rw [h1, h2]
  exact ⟨h3, h4⟩
/-- the parts are those of what is kept -/
theorem bgone_gone (nd : names.Nodup) : ∀ (n : Nat) (rs : List RsT), rs.length = n → Ends fR gR names rs → gone fR gR names (bgone bars names rs).kept = ((bgone bars names rs).ps, (bgone bars names rs).kept) ∧ Ok names (bgone bars names rs).ps := by
  intro n
  induction n with
  | zero =>
    intro rs h _
    obtain rfl : rs = [] := List.length_eq_zero_iff.mp h
    exact ⟨rfl, singles_ok nd⟩
  | succ n ih =>
    intro rs h he
    obtain ⟨ts, r, rfl⟩ : ∃ ts r, rs = ts ++ [r] := by
      have hne : rs ≠ [] := by intro e; rw [e] at h; simp at h
      exact ⟨rs.dropLast, rs.getLast hne, (List.dropLast_concat_getLast hne).symm⟩
    obtain ⟨i1, i2⟩ := ih ts (by simpa using h) fun x hx => he x (List.mem_append_left _ hx)
    obtain ⟨ha, hb⟩ := he r (by simp)
    rw [bgone_snoc]
    unfold bstep
    split
    · exact ⟨i1, i2⟩
    · rename_i hne
      split
      · exact ⟨i1, i2⟩
      · refine ⟨?_, i2.join ha hb⟩
        show gone fR gR names ((bgone bars names ts).kept ++ [r]) = _
        rw [gone_snoc, i1]
        unfold step
        rw [if_neg hne]
/-- the parts and what is kept don't lean on what isn't kept -/
theorem bgone_skip (p : RsT → Bool) : ∀ (n : Nat) (rs : List RsT), rs.length = n → (∀ r ∈ (bgone bars names rs).kept, p r = true) →
    (bgone bars names (rs.filter p)).ps = (bgone bars names rs).ps ∧ (bgone bars names (rs.filter p)).kept = (bgone bars names rs).kept := by
  intro n
  induction n with
  | zero =>
    intro rs h _
    obtain rfl : rs = [] := List.length_eq_zero_iff.mp h
    exact ⟨rfl, rfl⟩
  | succ n ih =>
    intro rs h hp
    obtain ⟨ts, r, rfl⟩ : ∃ ts r, rs = ts ++ [r] := by
      have hne : rs ≠ [] := by intro e; rw [e] at h; simp at h
      exact ⟨rs.dropLast, rs.getLast hne, (List.dropLast_concat_getLast hne).symm⟩
    obtain ⟨K, B, k1, k2, k3, k4⟩ := bgone_ext (bars := bars) (names := names) ts [r]
    obtain ⟨i1, i2⟩ := ih ts (by simpa using h) fun x hx => hp x (by rw [k1]; exact List.mem_append_left _ hx)
    rw [List.filter_append]
    cases hr : p r with
    | true =>
      have e : [r].filter p = [r] := by simp [hr]
      rw [e, bgone_snoc, bgone_snoc]
      unfold bstep
      rw [i1]
      split
      · exact ⟨i1, i2⟩
      · split
        · exact ⟨rfl, i2⟩
        · exact ⟨rfl, by show _ ++ [r] = _ ++ [r]; rw [i2]⟩
    | false =>
      have e : [r].filter p = [] := by simp [hr]
      rw [e, List.append_nil, i1, i2]
      rw [bgone_snoc] at hp ⊢
      unfold bstep at hp ⊢
      split
      · exact ⟨rfl, rfl⟩
      · rename_i hne
        rw [if_neg hne] at hp
        split
        · exact ⟨rfl, rfl⟩
        · rename_i hb
          rw [hb] at hp
          have := hp r (List.mem_append_right _ List.mem_cons_self)
          rw [hr] at this
          cases this
/-- what is kept ahead -/
theorem kept_ahead {a b : List RsT} (nd : (a ++ b).Nodup) : (bgone bars names (a ++ b)).kept.filter (fun r => decide (r ∈ a)) = (bgone bars names a).kept := by
  obtain ⟨K, B, k1, k2, k3, k4⟩ := bgone_ext (bars := bars) (names := names) a b
  have sb := (bgone_sub (bars := bars) (names := names) a).1
  rw [k1, List.filter_append]
  have e1 : (bgone bars names a).kept.filter (fun r => decide (r ∈ a)) = (bgone bars names a).kept := List.filter_eq_self.mpr fun r hr => decide_eq_true (sb r hr)
  have e2 : K.filter (fun r => decide (r ∈ a)) = [] := List.filter_eq_nil_iff.mpr fun r hr => by
    rw [decide_eq_true_eq]
    exact fun h => (List.nodup_append.mp nd).2.2 r h r (k3 r hr) rfl
  rw [e1, e2, List.append_nil]
theorem bard_ahead {a b : List RsT} (nd : (a ++ b).Nodup) : (bgone bars names (a ++ b)).bard.filter (fun p => decide (p.1 ∈ a)) = (bgone bars names a).bard := by
  obtain ⟨K, B, k1, k2, k3, k4⟩ := bgone_ext (bars := bars) (names := names) a b
  have sb := (bgone_sub (bars := bars) (names := names) a).2
  rw [k2, List.filter_append]
  have e1 : (bgone bars names a).bard.filter (fun p => decide (p.1 ∈ a)) = (bgone bars names a).bard := List.filter_eq_self.mpr fun r hr => decide_eq_true (sb r hr)
  have e2 : B.filter (fun p => decide (p.1 ∈ a)) = [] := List.filter_eq_nil_iff.mpr fun r hr => by
    rw [decide_eq_true_eq]
    exact fun h => (List.nodup_append.mp nd).2.2 r.1 h r.1 (k4 r hr) rfl
  rw [e1, e2, List.append_nil]
theorem kept_len {rs : List RsT} : (bgone bars names rs).kept.length ≤ rs.length ∧ (bgone bars names rs).bard.length ≤ rs.length := by
  have h : ∀ (rs : List RsT) (s : Jn), (brun bars s rs).kept.length ≤ s.kept.length + rs.length ∧ (brun bars s rs).bard.length ≤ s.bard.length + rs.length := by
    intro rs
    induction rs with
    | nil => intro s; exact ⟨Nat.le_refl _, Nat.le_refl _⟩
    | cons r rs ih =>
      intro s
      have := ih (bstep bars s r)
      have e : (bstep bars s r).kept.length ≤ s.kept.length + 1 ∧ (bstep bars s r).bard.length ≤ s.bard.length + 1 := by
        unfold bstep
        split
        · exact ⟨by omega, by omega⟩
        · split
          · exact ⟨by show s.kept.length ≤ _; omega, by show (s.bard ++ [_]).length ≤ _; rw [List.length_append, List.length_singleton]; omega⟩
          · exact ⟨by show (s.kept ++ [_]).length ≤ _; rw [List.length_append, List.length_singleton]; omega, by show s.bard.length ≤ _; omega⟩
      have e2 : brun bars s (r :: rs) = brun bars (bstep bars s r) rs := rfl
      rw [e2, List.length_cons]
      omega
  have := h rs (j0 names)
  have z1 : (j0 names).kept.length = 0 := rfl
  have z2 : (j0 names).bard.length = 0 := rfl
  unfold bgone
  omega
end
/-! rows as data -/
theorem rs_eqv (r s : RsT) : PyData.eqv (rsD r) (rsD s) = decide (r = s) := by
  obtain ⟨a, b, c, d⟩ := r
  obtain ⟨a', b', c', d'⟩ := s
  rw [Bool.eq_iff_iff, decide_eq_true_eq]
  simp [rsD, PyData.eqv, PyData.eqvAll]
theorem any_rs (r : RsT) : ∀ rs : List RsT, ((rs.map rsD).any fun z => PyData.eqv z (rsD r)) = decide (r ∈ rs)
  | [] => by simp
  | s :: rs => by
    rw [List.map_cons, List.any_cons, any_rs r rs, rs_eqv, Bool.eq_iff_iff]
    simp only [Bool.or_eq_true, decide_eq_true_eq, List.mem_cons]
    exact ⟨fun h => h.imp Eq.symm id, fun h => h.imp Eq.symm id⟩
theorem idx_rs (r : RsT) (rs : List RsT) (h : r ∈ rs) : ∃ i, ((rs.map rsD).findIdx? fun z => PyData.eqv z (rsD r)) = some i ∧ rs[i]? = some r := by
  have hs : ((rs.map rsD).findIdx? fun z => PyData.eqv z (rsD r)).isSome = true := by
    rw [List.findIdx?_isSome, any_rs, decide_eq_true_eq]; exact h
  obtain ⟨i, hi⟩ := Option.isSome_iff_exists.mp hs
  refine ⟨i, hi, ?_⟩
  obtain ⟨h1, h2, _⟩ := List.findIdx?_eq_some_iff_getElem.mp hi
  rw [List.getElem_map, rs_eqv, decide_eq_true_eq] at h2
  rw [List.length_map] at h1
  rw [List.getElem?_eq_getElem h1, h2]
end Ev.Pt

set_option Elab.async false
set_option linter.all false
set_option maxRecDepth 100000
set_option maxHeartbeats 8000000
/-! Plain lemmas: numbers and grounds as texts. -/
namespace Ev
open PySem
open TL (tl joinL tl_join join_eq len_tl tl_append ext_tl tl_ofString mk_tl split_join partition_app)
/-- a number's text -/
def numS (k : Int) : Str := PySem.Str.ofString (toString k)
theorem num_tl (m : Nat) : tl (numS ((m : Nat) : Int)) = (Nat.toDigits 10 m).map Char.toNat := PySem.W.KIN.signs_num m
theorem num_digit (m : Nat) : ∀ c ∈ tl (numS ((m : Nat) : Int)), 48 ≤ c ∧ c ≤ 57 := by
  intro c hc
  rw [num_tl] at hc
  obtain ⟨ch, hch, e⟩ := List.mem_map.mp hc
  have r := PyProof.Rows.digit_range (Nat.isDigit_of_mem_toDigits (by decide) (by decide) hch)
  rw [← e]
  exact r
theorem num_dig {k : Int} (h0 : 0 ≤ k) : ∀ c ∈ tl (numS k), 48 ≤ c ∧ c ≤ 57 := by
  obtain ⟨m, rfl⟩ := Int.eq_ofNat_of_zero_le h0
  exact num_digit m
theorem num_back {k : Int} (h0 : 0 ≤ k) (h1 : k < 1000000) : PySem.intText? (numS k) = some k := PySem.W.KIN.num_reads h0 (by omega)
theorem num_len6 {k : Int} (h0 : 0 ≤ k) (h1 : k < 1000000) : (numS k).length ≤ 6 := PyProof.Rows.toString_length_le h0 (by decide) (by omega)
theorem num_pos {k : Int} (h0 : 0 ≤ k) : 1 ≤ (numS k).length := by
  obtain ⟨m, rfl⟩ := Int.eq_ofNat_of_zero_le h0
  have e := PySem.toDigits_len_ge 10 m
  have e2 := congrArg List.length (num_tl m)
  rw [List.length_map, ← len_tl] at e2
  have e3 : (numS ((m : Nat) : Int)).length = (Nat.toDigits 10 m).length := e2
  show 1 ≤ (numS ((m : Nat) : Int)).length
  omega
theorem head_dig (m : Nat) : ∀ c r, (Nat.toDigits 10 m).map Char.toNat = c :: r → c = 48 → m = 0 := by
  induction m using Nat.strongRecOn with
  | _ m ih =>
    intro c r e ec
    by_cases h : m < 10
    · rw [Nat.toDigits_of_lt_base h] at e
      simp only [List.map_cons, List.map_nil, List.cons.injEq] at e
      have d : ∀ d : Nat, d < 10 → (Nat.digitChar d).toNat = 48 → d = 0 := by decide
      exact d m h (by omega)
    · have hm : m % 10 < 10 := Nat.mod_lt m (by decide)
      have t : Nat.toDigits 10 (m / 10) ++ Nat.toDigits 10 (m % 10) = Nat.toDigits 10 (10 * (m / 10) + m % 10) := Nat.toDigits_append_toDigits (by decide) (by omega) hm
      rw [Nat.div_add_mod] at t
      rw [← t, List.map_append] at e
      cases hd : (Nat.toDigits 10 (m / 10)).map Char.toNat with
      | nil =>
        have l := PySem.toDigits_len_ge 10 (m / 10)
        rw [List.map_eq_nil_iff.mp hd] at l
        exact absurd l (by decide)
      | cons a b =>
        rw [hd, List.cons_append] at e
        injection e with e1 e2
        have := ih (m / 10) (by omega) a b hd (by omega)
        omega
theorem num_head {k : Int} (h0 : 0 ≤ k) {c : Nat} {r : List Nat} (e : tl (numS k) = c :: r) (ec : c = 48) : numS k = ("0" : Str) := by
  obtain ⟨m, rfl⟩ := Int.eq_ofNat_of_zero_le h0
  have e2 : (Nat.toDigits 10 m).map Char.toNat = c :: r := by rw [← num_tl]; exact e
  have := head_dig m c r e2 ec
  subst this
  apply ext_tl
  have e3 := num_tl 0
  rw [show tl (numS ((0 : Nat) : Int)) = _ from e3]
  decide +kernel
def figS : Str := "0123456789"
theorem num_signs {k : Int} (h0 : 0 ≤ k) : (signs (numS k)).all (inB1 figS) = true := by
  refine signs_of fun c hc => ?_
  have := num_dig h0 c hc
  have e : tl figS = (List.range 10).map fun i => i + 48 := by decide +kernel
  rw [e]
  exact List.mem_map.mpr ⟨c - 48, List.mem_range.mpr (by omega), by omega⟩
theorem str_num {i : Int} (h0 : 0 ≤ i) (h1 : i < 1000000) (Q : D → Prop) : OP (strG [.int i]) Q = Q (.str (numS i)) := by
  show OP (if i.natAbs.log2 < 1920 then some (PyData.str (numS i)) else none) Q = _
  rw [if_pos, op_some]
  by_cases z : i.natAbs = 0
  · rw [z]; decide
  · have : i.natAbs < 2 ^ 20 := by omega
    have := (Nat.log2_lt z).mpr this
    omega
theorem int_num {i : Int} (h0 : 0 ≤ i) (h1 : i < 1000000) (Q : D → Prop) : OP (intG [.str (numS i)]) Q = Q (.int i) := by
  show OP (if (numS i).length ≤ 640 then (PySem.intText? (numS i)).map PyData.int else none) Q = _
  have := num_len6 h0 h1
  rw [if_pos (by omega), num_back h0 h1]
  exact op_some _ _
/-! ### names, rows and grounds as texts -/
theorem free_small : 32 ∉ tl smallS ∧ 45 ∉ tl smallS ∧ 47 ∉ tl smallS ∧ 10 ∉ tl smallS := by decide +kernel
theorem name_signs {z : Str} (h : nameB z = true) : ∀ c ∈ tl z, c ∈ tl smallS := by
  simp only [nameB, Bool.and_eq_true] at h
  exact signs_all h.2
theorem name_no {z : Str} (h : nameB z = true) : 32 ∉ tl z ∧ 45 ∉ tl z ∧ 47 ∉ tl z ∧ 10 ∉ tl z :=
  ⟨fun c => free_small.1 (name_signs h _ c), fun c => free_small.2.1 (name_signs h _ c), fun c => free_small.2.2.1 (name_signs h _ c), fun c => free_small.2.2.2 (name_signs h _ c)⟩
theorem num_no {k : Int} (h0 : 0 ≤ k) : 32 ∉ tl (numS k) ∧ 45 ∉ tl (numS k) ∧ 47 ∉ tl (numS k) ∧ 10 ∉ tl (numS k) :=
  ⟨fun c => by have := num_dig h0 _ c; omega, fun c => by have := num_dig h0 _ c; omega, fun c => by have := num_dig h0 _ c; omega, fun c => by have := num_dig h0 _ c; omega⟩
def rtx (r : RsT) : Str := r.2.1 ++ ("-" : Str) ++ r.2.2.1 ++ (" " : Str) ++ numS r.1 ++ (" " : Str) ++ numS r.2.2.2
def btx (b : BrT) : Str := b.1 ++ ("/" : Str) ++ b.2.1 ++ (" " : Str) ++ numS b.2.2
def ntx (us : List Str) : Str := Txt.join (" " : Str) (("names" : Str) :: us)
def rows3 (us : List Str) (rs : List RsT) (bs : List BrT) : List Str := ntx us :: (rs.map rtx ++ bs.map btx)
def gtx (us : List Str) (rs : List RsT) (bs : List BrT) : Str := Txt.join ("\n" : Str) (rows3 us rs bs)
theorem sp_tl : tl (" " : Str) = 32 :: [] := by decide +kernel
theorem hy_tl : tl ("-" : Str) = 45 :: [] := by decide +kernel
theorem sl_tl : tl ("/" : Str) = 47 :: [] := by decide +kernel
theorem nl_tl : tl ("\n" : Str) = 10 :: [] := by decide +kernel
theorem split1 {S z : Str} {s : Nat} {r : List Nat} (e : tl S = s :: r) (hk : S.cps.all (· < 256) = true) (h : s ∉ tl z) : Txt.split z S = [z] := by
  have e2 : z = Txt.join S [z] := by
    apply ext_tl
    rw [join_eq, tl_join]
    rfl
  have := split_join e hk (parts := [z]) (by simp) (fun q hq => by rw [List.mem_singleton.mp hq]; exact h)
  rw [e2]
  rw [this, ← e2]
theorem split2 {S a b : Str} {s : Nat} {r : List Nat} (e : tl S = s :: r) (hk : S.cps.all (· < 256) = true) (ha : s ∉ tl a) (hb : s ∉ tl b) : Txt.split (a ++ S ++ b) S = [a, b] := by
  have e2 : a ++ S ++ b = Txt.join S [a, b] := by
    apply ext_tl
    rw [join_eq, tl_join]
    show tl (a ++ S ++ b) = tl a ++ (tl S ++ tl b)
    rw [tl_append, tl_append, List.append_assoc]
  rw [e2]
  refine split_join e hk (by simp) fun q hq => ?_
  simp only [List.mem_cons, List.not_mem_nil, or_false] at hq
  rcases hq with rfl | rfl
  · exact ha
  · exact hb
theorem split3 {S a b c : Str} {s : Nat} {r : List Nat} (e : tl S = s :: r) (hk : S.cps.all (· < 256) = true) (ha : s ∉ tl a) (hb : s ∉ tl b) (hc : s ∉ tl c) : Txt.split (a ++ S ++ b ++ S ++ c) S = [a, b, c] := by
  have e2 : a ++ S ++ b ++ S ++ c = Txt.join S [a, b, c] := by
    apply ext_tl
    rw [join_eq, tl_join]
    show tl (a ++ S ++ b ++ S ++ c) = tl a ++ (tl S ++ (tl b ++ (tl S ++ tl c)))
    simp only [tl_append, List.append_assoc]
  rw [e2]
  refine split_join e hk (by simp) fun q hq => ?_
  simp only [List.mem_cons, List.not_mem_nil, or_false] at hq
  rcases hq with rfl | rfl | rfl
  · exact ha
  · exact hb
  · exact hc
/-- a row of a ground that can be shown -/
def RsS (us : List Str) (r : RsT) : Prop := 1 ≤ r.1 ∧ r.1 ≤ 1000 ∧ EndOk us r.2.1 r.2.2.1 ∧ 0 ≤ r.2.2.2 ∧ r.2.2.2 < 1000000
def BrS (us : List Str) (b : BrT) : Prop := EndOk us b.1 b.2.1 ∧ 0 ≤ b.2.2 ∧ b.2.2 < 1000000
/-- a ground that can be shown -/
structure GrS (us : List Str) (rs : List RsT) (bs : List BrT) : Prop where
  name : ∀ z ∈ us, nameB z = true
  rise : adjB us = true
  few : us.length ≤ 15
  rlen : rs.length ≤ 60
  rok : ∀ r ∈ rs, RsS us r
  rrise : adjD ((rs.map ngT).map rsD) = true
  blen : bs.length ≤ 60
  bok : ∀ b ∈ bs, BrS us b
  brise : adjD (bs.map brD) = true
theorem GrS.nil : GrS [] [] [] := ⟨by simp, rfl, by simp, by simp, by simp, rfl, by simp, by simp, rfl⟩
theorem GrS.sub {us : List Str} {rs rs' : List RsT} {bs bs' : List BrT} (h : GrS us rs bs) (s1 : rs'.Sublist rs) (s2 : bs'.Sublist bs) : GrS us rs' bs' :=
  ⟨h.name, h.rise, h.few, Nat.le_trans s1.length_le h.rlen, fun r hr => h.rok r (s1.subset hr), (adjD_pw _).mpr (((adjD_pw _).mp h.rrise).sublist ((s1.map _).map _)), Nat.le_trans s2.length_le h.blen, fun b hb => h.bok b (s2.subset hb), (adjD_pw _).mpr (((adjD_pw _).mp h.brise).sublist (s2.map _))⟩
theorem RsS.names {us : List Str} {r : RsT} (hn : ∀ z ∈ us, nameB z = true) (h : RsS us r) : nameB r.2.1 = true ∧ nameB r.2.2.1 = true := ⟨hn _ h.2.2.1.1, hn _ h.2.2.1.2.1⟩
theorem BrS.names {us : List Str} {b : BrT} (hn : ∀ z ∈ us, nameB z = true) (h : BrS us b) : nameB b.1 = true ∧ nameB b.2.1 = true := ⟨hn _ h.1.1, hn _ h.1.2.1⟩
theorem pair_no {a b S : Str} (ha : nameB a = true) (hb : nameB b = true) (s : Nat) (hs : s = 32 ∨ s = 45 ∨ s = 47 ∨ s = 10) (hS : s ∉ tl S) : s ∉ tl (a ++ S ++ b) := by
  intro hc
  rw [tl_append, tl_append] at hc
  have h1 := name_no ha
  have h2 := name_no hb
  simp only [List.mem_append] at hc
  rcases hs with rfl | rfl | rfl | rfl
  · exact hc.elim (fun z => z.elim h1.1 hS) h2.1
  · exact hc.elim (fun z => z.elim h1.2.1 hS) h2.2.1
  · exact hc.elim (fun z => z.elim h1.2.2.1 hS) h2.2.2.1
  · exact hc.elim (fun z => z.elim h1.2.2.2 hS) h2.2.2.2
theorem split_r {us : List Str} {r : RsT} (hn : ∀ z ∈ us, nameB z = true) (h : RsS us r) : Txt.split (rtx r) (" " : Str) = [r.2.1 ++ ("-" : Str) ++ r.2.2.1, numS r.1, numS r.2.2.2] := by
  have nm := h.names hn
  exact split3 sp_tl (by decide +kernel) (pair_no nm.1 nm.2 32 (.inl rfl) (by decide +kernel)) (num_no (by have := h.1; omega)).1 (num_no h.2.2.2.1).1
theorem split_b {us : List Str} {b : BrT} (hn : ∀ z ∈ us, nameB z = true) (h : BrS us b) : Txt.split (btx b) (" " : Str) = [b.1 ++ ("/" : Str) ++ b.2.1, numS b.2.2] := by
  have nm := h.names hn
  exact split2 sp_tl (by decide +kernel) (pair_no nm.1 nm.2 32 (.inl rfl) (by decide +kernel)) (num_no h.2.1).1
theorem split_hy {a b : Str} (ha : nameB a = true) (hb : nameB b = true) : Txt.split (a ++ ("-" : Str) ++ b) ("-" : Str) = [a, b] := split2 hy_tl (by decide +kernel) (name_no ha).2.1 (name_no hb).2.1
theorem split_sl {a b : Str} (ha : nameB a = true) (hb : nameB b = true) : Txt.split (a ++ ("/" : Str) ++ b) ("/" : Str) = [a, b] := split2 sl_tl (by decide +kernel) (name_no ha).2.2.1 (name_no hb).2.2.1
theorem split_hs {a b : Str} (ha : nameB a = true) (hb : nameB b = true) : Txt.split (a ++ ("-" : Str) ++ b) ("/" : Str) = [a ++ ("-" : Str) ++ b] := split1 sl_tl (by decide +kernel) (pair_no ha hb 47 (.inr (.inr (.inl rfl))) (by decide +kernel))
theorem split_sh {a b : Str} (ha : nameB a = true) (hb : nameB b = true) : Txt.split (a ++ ("/" : Str) ++ b) ("-" : Str) = [a ++ ("/" : Str) ++ b] := split1 hy_tl (by decide +kernel) (pair_no ha hb 45 (.inr (.inl rfl)) (by decide +kernel))
theorem split_n {us : List Str} (hn : ∀ z ∈ us, nameB z = true) : Txt.split (ntx us) (" " : Str) = ("names" : Str) :: us := by
  refine split_join sp_tl (by decide +kernel) (by simp) fun q hq => ?_
  rcases List.mem_cons.mp hq with rfl | hq
  · decide +kernel
  · exact (name_no (hn q hq)).1
theorem joinL_no {S : List Nat} {s : Nat} (hS : s ∉ S) : ∀ {ps : List (List Nat)}, (∀ p ∈ ps, s ∉ p) → s ∉ joinL S ps
  | [], _ => by simp [joinL]
  | [p], h => by simpa [joinL] using h p (by simp)
  | p :: q :: r, h => by
    have ih := joinL_no hS (ps := q :: r) fun x hx => h x (List.mem_cons_of_mem _ hx)
    simp only [joinL, List.mem_append, not_or]
    exact ⟨h p (by simp), hS, ih⟩
theorem ntx_no {us : List Str} (hn : ∀ z ∈ us, nameB z = true) : 10 ∉ tl (ntx us) := by
  unfold ntx
  rw [join_eq, tl_join]
  refine joinL_no (by decide +kernel) fun p hp => ?_
  obtain ⟨z, hz, rfl⟩ := List.mem_map.mp hp
  rcases List.mem_cons.mp hz with rfl | hz
  · decide +kernel
  · exact (name_no (hn z hz)).2.2.2
theorem rtx_no {us : List Str} {r : RsT} (hn : ∀ z ∈ us, nameB z = true) (h : RsS us r) : 10 ∉ tl (rtx r) := by
  have nm := h.names hn
  have h0 := pair_no (S := ("-" : Str)) nm.1 nm.2 10 (.inr (.inr (.inr rfl))) (by decide +kernel)
  have h1 := (num_no (k := r.1) (by have := h.1; omega)).2.2.2
  have h2 := (num_no h.2.2.2.1).2.2.2
  have h3 : 10 ∉ tl (" " : Str) := by decide +kernel
  unfold rtx
  rw [tl_append, tl_append, tl_append, tl_append]
  simp only [List.mem_append, not_or]
  exact ⟨⟨⟨⟨h0, h3⟩, h1⟩, h3⟩, h2⟩
theorem btx_no {us : List Str} {b : BrT} (hn : ∀ z ∈ us, nameB z = true) (h : BrS us b) : 10 ∉ tl (btx b) := by
  have nm := h.names hn
  have h0 := pair_no (S := ("/" : Str)) nm.1 nm.2 10 (.inr (.inr (.inr rfl))) (by decide +kernel)
  have h2 := (num_no h.2.1).2.2.2
  have h3 : 10 ∉ tl (" " : Str) := by decide +kernel
  unfold btx
  rw [tl_append, tl_append]
  simp only [List.mem_append, not_or]
  exact ⟨⟨h0, h3⟩, h2⟩
theorem split_g {us : List Str} {rs : List RsT} {bs : List BrT} (h : GrS us rs bs) : Txt.split (gtx us rs bs) ("\n" : Str) = rows3 us rs bs := by
  refine split_join nl_tl (by decide +kernel) (by simp [rows3]) fun q hq => ?_
  unfold rows3 at hq
  rcases List.mem_cons.mp hq with rfl | hq
  · exact ntx_no h.name
  · rcases List.mem_append.mp hq with hq | hq
    · obtain ⟨r, hr, rfl⟩ := List.mem_map.mp hq
      exact rtx_no h.name (h.rok r hr)
    · obtain ⟨r, hr, rfl⟩ := List.mem_map.mp hq
      exact btx_no h.name (h.bok r hr)
theorem rtx_len {us : List Str} {r : RsT} (hn : ∀ z ∈ us, nameB z = true) (h : RsS us r) : (rtx r).length ≤ 40 := by
  have nm := h.names hn
  have l1 := name_len nm.1
  have l2 := name_len nm.2
  have l3 := num_len6 (k := r.1) (by have := h.1; omega) (by have := h.2.1; omega)
  have l4 := num_len6 h.2.2.2.1 h.2.2.2.2
  have s1 : ("-" : Str).length = 1 := by decide +kernel
  have s2 : (" " : Str).length = 1 := by decide +kernel
  unfold rtx
  simp only [str_app, s1, s2]
  omega
theorem btx_len {us : List Str} {b : BrT} (hn : ∀ z ∈ us, nameB z = true) (h : BrS us b) : (btx b).length ≤ 40 := by
  have nm := h.names hn
  have l1 := name_len nm.1
  have l2 := name_len nm.2
  have l4 := num_len6 h.2.1 h.2.2
  have s1 : ("/" : Str).length = 1 := by decide +kernel
  have s2 : (" " : Str).length = 1 := by decide +kernel
  unfold btx
  simp only [str_app, s1, s2]
  omega
theorem joinL_len (S : List Nat) : ∀ ps : List (List Nat), (joinL S ps).length ≤ (ps.map List.length).sum + ps.length * S.length
  | [] => by simp [joinL]
  | [p] => by simp [joinL]
  | p :: q :: r => by
    have ih := joinL_len S (q :: r)
    simp only [joinL, List.length_append, List.map_cons, List.sum_cons, List.length_cons, Nat.add_mul, Nat.one_mul] at ih ⊢
    omega
theorem sum_le {k : Nat} : ∀ {zs : List Str}, (∀ z ∈ zs, z.length ≤ k) → (zs.map (·.length)).sum ≤ k * zs.length
  | [], _ => by simp
  | z :: zs, h => by
    have ih := sum_le fun q hq => h q (List.mem_cons_of_mem _ hq)
    have := h z List.mem_cons_self
    simp only [List.map_cons, List.sum_cons, List.length_cons, Nat.mul_add, Nat.mul_one]
    omega
theorem join_len {S : Str} {k : Nat} {zs : List Str} (h : ∀ z ∈ zs, z.length ≤ k) : (Txt.join S zs).length ≤ k * zs.length + zs.length * S.length := by
  have h1 := joinL_len (tl S) (zs.map tl)
  have h2 := sum_le h
  have e : (zs.map tl).map List.length = zs.map (·.length) := by
    rw [List.map_map]
    exact List.map_congr_left fun z _ => (len_tl z).symm
  rw [len_tl, join_eq, tl_join]
  rw [e, List.length_map, ← len_tl] at h1
  omega
theorem nm8 {us : List Str} (hn : ∀ z ∈ us, nameB z = true) : ∀ z ∈ ("names" : Str) :: us, z.length ≤ 8 := fun z hz => by
  rcases List.mem_cons.mp hz with rfl | hz
  · decide +kernel
  · exact (name_len (hn z hz)).2
theorem ntx_len {us : List Str} (hn : ∀ z ∈ us, nameB z = true) (hl : us.length ≤ 15) : (ntx us).length ≤ 144 := by
  have := join_len (S := (" " : Str)) (nm8 hn)
  have s2 : (" " : Str).length = 1 := by decide +kernel
  unfold ntx
  simp only [List.length_cons, s2] at this
  omega
theorem rows_len {us : List Str} {rs : List RsT} {bs : List BrT} (h : GrS us rs bs) : (∀ z ∈ rows3 us rs bs, z.length ≤ 144) ∧ (rows3 us rs bs).length ≤ 121 := by
  refine ⟨fun z hz => ?_, ?_⟩
  · unfold rows3 at hz
    rcases List.mem_cons.mp hz with rfl | hq
    · exact ntx_len h.name h.few
    · rcases List.mem_append.mp hq with hq | hq
      · obtain ⟨r, hr, rfl⟩ := List.mem_map.mp hq
        have := rtx_len h.name (h.rok r hr)
        omega
      · obtain ⟨r, hr, rfl⟩ := List.mem_map.mp hq
        have := btx_len h.name (h.bok r hr)
        omega
  · have h1 := h.rlen
    have h2 := h.blen
    simp [rows3]
    omega
theorem gtx_len {us : List Str} {rs : List RsT} {bs : List BrT} (h : GrS us rs bs) : (gtx us rs bs).length ≤ 20000 := by
  have r := rows_len h
  have := join_len (S := ("\n" : Str)) r.1
  have s2 : ("\n" : Str).length = 1 := by decide +kernel
  unfold gtx
  rw [s2] at this
  have := r.2
  omega
/-! ### what puts the rows in order -/
theorem dlt_tup {x y : D} (h : PySem.W.alike x y = true) (xs ys : List D) : PySem.W.dataLt (.tuple (x :: xs)) (.tuple (y :: ys)) = if PyData.eqv x y = true then PySem.W.dataLt (.tuple xs) (.tuple ys) else PySem.W.dataLt x y := PySem.W.dataLt_cons h xs ys
def rkR (r : RsT) : D := .tuple [.int 0, .int (0 - r.1), .str r.2.1, .str r.2.2.1, .int r.2.2.2]
def rkB (b : BrT) : D := .tuple [.int 1, .int 0, .str b.1, .str b.2.1, .int b.2.2]
theorem rk_rr (r s : RsT) : PySem.W.dataLt (rkR r) (rkR s) = PySem.W.dataLt (rsD (ngT r)) (rsD (ngT s)) := by
  unfold rkR
  rw [dlt_tup (by simp [PySem.W.alike])]
  simp only [PyData.eqv, beq_self_eq_true, if_true]
  rfl
theorem rk_bb (r s : BrT) : PySem.W.dataLt (rkB r) (rkB s) = PySem.W.dataLt (brD r) (brD s) := by
  unfold rkB
  rw [dlt_tup (by simp [PySem.W.alike]), if_pos (by simp [PyData.eqv]), dlt_tup (by simp [PySem.W.alike]), if_pos (by simp [PyData.eqv])]
  rfl
theorem rk_rb (r : RsT) (b : BrT) : PySem.W.dataLt (rkR r) (rkB b) = true := by
  unfold rkR rkB
  rw [dlt_tup (by simp [PySem.W.alike]), if_neg (by simp [PyData.eqv]), PySem.W.dataLt_int]
  decide
/-- the rows behind the names, each with what puts it in order -/
def lines (rs : List RsT) (bs : List BrT) : List (Str × D) := (rs.map fun r => (rtx r, rkR r)) ++ bs.map fun b => (btx b, rkB b)
theorem lines_fst (rs : List RsT) (bs : List BrT) : (lines rs bs).map (·.1) = rs.map rtx ++ bs.map btx := by
  unfold lines
  rw [List.map_append, List.map_map, List.map_map]
  rfl
theorem lines_rise {us : List Str} {rs : List RsT} {bs : List BrT} (h : GrS us rs bs) : (lines rs bs).Pairwise fun p q => PySem.W.dataLt p.2 q.2 = true := by
  have h1 := (adjD_pw _).mp h.rrise
  have h2 := (adjD_pw _).mp h.brise
  rw [List.map_map, List.pairwise_map] at h1
  rw [List.pairwise_map] at h2
  unfold lines
  rw [List.pairwise_append, List.pairwise_map, List.pairwise_map]
  refine ⟨h1.imp fun {a b} z => by rw [rk_rr]; exact z, h2.imp fun {a b} z => by rw [rk_bb]; exact z, fun p hp q hq => ?_⟩
  obtain ⟨r, _, rfl⟩ := List.mem_map.mp hp
  obtain ⟨b, _, rfl⟩ := List.mem_map.mp hq
  exact rk_rb r b
theorem le_row {xs ys : List D} (h : PySem.W.alikeAll xs ys = true) (s1 : SeqAt.shaped (.tuple xs) = true) (s2 : SeqAt.shaped (.tuple ys) = true) (Q : D → Prop) : OP (leD (.tuple xs) (.tuple ys)) Q = Q (.bool (!PySem.W.dataLt (.tuple ys) (.tuple xs))) := by
  show OP (if PySem.W.alikeAll xs ys = true ∧ SeqAt.shaped (.tuple xs) = true ∧ SeqAt.shaped (.tuple ys) = true then some (PyData.bool (!PySem.W.dataLt (.tuple ys) (.tuple xs))) else none) Q = _
  rw [if_pos ⟨h, s1, s2⟩]
  exact op_some _ _
theorem lines_shape {us : List Str} {rs : List RsT} {bs : List BrT} (h : GrS us rs bs) {p : Str × D} (hp : p ∈ lines rs bs) : ∃ (a b : Int) (x y : Str) (k : Int), p.2 = .tuple [.int a, .int b, .str x, .str y, .int k] ∧ nameB x = true ∧ nameB y = true := by
  unfold lines at hp
  rcases List.mem_append.mp hp with hp | hp
  · obtain ⟨r, hr, rfl⟩ := List.mem_map.mp hp
    have := (h.rok r hr).names h.name
    exact ⟨_, _, _, _, _, rfl, this.1, this.2⟩
  · obtain ⟨r, hr, rfl⟩ := List.mem_map.mp hp
    have := (h.bok r hr).names h.name
    exact ⟨_, _, _, _, _, rfl, this.1, this.2⟩
theorem le_lines {us : List Str} {rs : List RsT} {bs : List BrT} (h : GrS us rs bs) {p q : Str × D} (hp : p ∈ lines rs bs) (hq : q ∈ lines rs bs) (Q : D → Prop) : OP (leD p.2 q.2) Q = Q (.bool (!PySem.W.dataLt q.2 p.2)) := by
  obtain ⟨a, b, x, y, k, e1, n1, n2⟩ := lines_shape h hp
  obtain ⟨a', b', x', y', k', e2, n1', n2'⟩ := lines_shape h hq
  have sh : ∀ (a b : Int) (x y : Str) (k : Int), nameB x = true → nameB y = true → SeqAt.shaped (.tuple [.int a, .int b, .str x, .str y, .int k]) = true := fun a b x y k hx hy => by
    refine (Lay.tup (k := 0) fun v hv => ?_).shaped (by decide)
    simp only [List.mem_cons, List.not_mem_nil, or_false] at hv
    rcases hv with rfl | rfl | rfl | rfl | rfl
    · exact Lay.int _ _
    · exact Lay.int _ _
    · exact Lay.str (real_name hx) _
    · exact Lay.str (real_name hy) _
    · exact Lay.int _ _
  rw [e1, e2]
  exact le_row (by simp [PySem.W.alikeAll, PySem.W.alike]) (sh _ _ _ _ _ n1 n2) (sh _ _ _ _ _ n1' n2') Q
/-! ### what a row reads as -/
def cR : D → Bool
  | .str z => decide ((Txt.split z (" " : Str)).length = 3)
  | _ => false
def cBr : D → Bool
  | .str z => decide ((Txt.split z (" " : Str)).length = 2)
  | _ => false
def gRs : D → D
  | .str z => match Txt.split z (" " : Str) with
    | [p, w, k] => match Txt.split p ("-" : Str) with
      | [a, b] => .tuple [.int ((PySem.intText? w).getD 0), .str a, .str b, .int ((PySem.intText? k).getD 0)]
      | _ => .none
    | _ => .none
  | _ => .none
def gBr : D → D
  | .str z => match Txt.split z (" " : Str) with
    | [p, k] => match Txt.split p ("/" : Str) with
      | [a, b] => .tuple [.str a, .str b, .int ((PySem.intText? k).getD 0)]
      | _ => .none
    | _ => .none
  | _ => .none
theorem gRs_rtx {us : List Str} {r : RsT} (hn : ∀ z ∈ us, nameB z = true) (h : RsS us r) : gRs (.str (rtx r)) = rsD r := by
  have nm := h.names hn
  simp only [gRs, split_r hn h, split_hy nm.1 nm.2, num_back (k := r.1) (by have := h.1; omega) (by have := h.2.1; omega), num_back h.2.2.2.1 h.2.2.2.2]
  rfl
theorem gBr_btx {us : List Str} {b : BrT} (hn : ∀ z ∈ us, nameB z = true) (h : BrS us b) : gBr (.str (btx b)) = brD b := by
  have nm := h.names hn
  simp only [gBr, split_b hn h, split_sl nm.1 nm.2, num_back h.2.1 h.2.2]
  rfl
theorem read_rs {us : List Str} {rs : List RsT} {bs : List BrT} (h : GrS us rs bs) : (((rs.map rtx ++ bs.map btx).map PyData.str).filter cR).map gRs = rs.map rsD := by
  have e1 : ((rs.map rtx).map PyData.str).filter cR = (rs.map rtx).map .str := List.filter_eq_self.mpr fun d hd => by
    obtain ⟨z, hz, rfl⟩ := List.mem_map.mp hd
    obtain ⟨r, hr, rfl⟩ := List.mem_map.mp hz
    simp [cR, split_r h.name (h.rok r hr)]
  have e2 : ((bs.map btx).map PyData.str).filter cR = [] := List.filter_eq_nil_iff.mpr fun d hd => by
    obtain ⟨z, hz, rfl⟩ := List.mem_map.mp hd
    obtain ⟨r, hr, rfl⟩ := List.mem_map.mp hz
    simp [cR, split_b h.name (h.bok r hr)]
  rw [List.map_append, List.filter_append, e1, e2, List.append_nil, List.map_map, List.map_map]
  exact List.map_congr_left fun r hr => gRs_rtx h.name (h.rok r hr)
theorem read_bs {us : List Str} {rs : List RsT} {bs : List BrT} (h : GrS us rs bs) : (((rs.map rtx ++ bs.map btx).map PyData.str).filter cBr).map gBr = bs.map brD := by
  have e1 : ((rs.map rtx).map PyData.str).filter cBr = [] := List.filter_eq_nil_iff.mpr fun d hd => by
    obtain ⟨z, hz, rfl⟩ := List.mem_map.mp hd
    obtain ⟨r, hr, rfl⟩ := List.mem_map.mp hz
    simp [cBr, split_r h.name (h.rok r hr)]
  have e2 : ((bs.map btx).map PyData.str).filter cBr = (bs.map btx).map .str := List.filter_eq_self.mpr fun d hd => by
    obtain ⟨z, hz, rfl⟩ := List.mem_map.mp hd
    obtain ⟨r, hr, rfl⟩ := List.mem_map.mp hz
    simp [cBr, split_b h.name (h.bok r hr)]
  rw [List.map_append, List.filter_append, e1, e2, List.nil_append, List.map_map, List.map_map]
  exact List.map_congr_left fun r hr => gBr_btx h.name (h.bok r hr)
/-! ### a ground is itself -/
theorem grd_key (us : List Str) (rs : List RsT) (bs : List BrT) : PyData.eqv (groundD us rs bs) (groundD us rs bs) = true := by
  have e1 : PyData.eqvAll (us.map PyData.str) (us.map .str) = true := eqvAll_self _ (tkAll_of (List.all_eq_true.mpr fun d hd => by
    obtain ⟨z, _, rfl⟩ := List.mem_map.mp hd
    rfl))
  have e2 : PyData.eqvAll (rs.map rsD) (rs.map rsD) = true := eqvAll_self _ (tkAll_of (List.all_eq_true.mpr fun d hd => by
    obtain ⟨z, _, rfl⟩ := List.mem_map.mp hd
    rfl))
  have e3 : PyData.eqvAll (bs.map brD) (bs.map brD) = true := eqvAll_self _ (tkAll_of (List.all_eq_true.mpr fun d hd => by
    obtain ⟨z, _, rfl⟩ := List.mem_map.mp hd
    rfl))
  simp [groundD, PyData.eqv, PyData.eqvAll, e1, e2, e3]
theorem grd_lay {us : List Str} {rs : List RsT} {bs : List BrT} (h : GrS us rs bs) : Lay 3 (groundD us rs bs) := by
  have hn : ∀ z ∈ us, PyData.canLay0 (.str z) = true := fun z hz => real_name (h.name z hz)
  refine Lay.tup (k := 2) fun v hv => ?_
  simp only [List.mem_cons, List.not_mem_nil, or_false] at hv
  rcases hv with rfl | rfl | rfl
  · refine Lay.tup (k := 1) fun d hd => ?_
    obtain ⟨z, hz, rfl⟩ := List.mem_map.mp hd
    exact Lay.str (hn z hz) _
  · refine Lay.tup (k := 1) fun d hd => ?_
    obtain ⟨r, hr, rfl⟩ := List.mem_map.mp hd
    have ends := (h.rok r hr).2.2.1
    refine Lay.tup (k := 0) fun v hv => ?_
    simp only [List.mem_cons, List.not_mem_nil, or_false] at hv
    rcases hv with rfl | rfl | rfl | rfl
    · exact Lay.int _ _
    · exact Lay.str (hn _ ends.1) _
    · exact Lay.str (hn _ ends.2.1) _
    · exact Lay.int _ _
  · refine Lay.tup (k := 1) fun d hd => ?_
    obtain ⟨r, hr, rfl⟩ := List.mem_map.mp hd
    have ends := (h.bok r hr).1
    refine Lay.tup (k := 0) fun v hv => ?_
    simp only [List.mem_cons, List.not_mem_nil, or_false] at hv
    rcases hv with rfl | rfl | rfl
    · exact Lay.str (hn _ ends.1) _
    · exact Lay.str (hn _ ends.2.1) _
    · exact Lay.int _ _
theorem ne_grd {us : List Str} {rs : List RsT} {bs : List BrT} (h : GrS us rs bs) (Q : D → Prop) : OP (neD (groundD us rs bs) (groundD us rs bs)) Q = Q (.bool false) := by
  have s := (grd_lay h).shaped (by decide)
  have e : eqB (groundD us rs bs) (groundD us rs bs) = some true := by
    show (if SeqAt.shaped (groundD us rs bs) = true ∧ SeqAt.shaped (groundD us rs bs) = true then some (PyData.eqv (groundD us rs bs) (groundD us rs bs)) else none) = _
    rw [if_pos ⟨s, s⟩, grd_key]
  unfold neD
  rw [e]
  exact op_some _ _
theorem isnot_bool (a b : Bool) (Q : D → Prop) : OP (isNotD (.bool a) (.bool b)) Q = Q (.bool (!decide (a = b))) := op_some _ _
end Ev

set_option Elab.async false
set_option linter.all false
set_option maxRecDepth 100000
set_option maxHeartbeats 8000000
namespace K51
open PySem L2 Ev
def top (i : Nat) : Stmt := PySem.Challenge.pw_onefolk_k51_grounds_written.main.body.getD i (.Pass ⟨0, 0, 0, 0⟩)
def d0 : DefD := ⟨"is_name", top 6, ["thing"], ["thing", "sign"]⟩ -- is_name
def d1 : DefD := ⟨"is_number", top 9, ["thing", "least", "most"], ["thing", "least", "most"]⟩ -- is_number
def d2 : DefD := ⟨"are_two_names", top 11, ["one", "other"], ["one", "other"]⟩ -- are_two_names
def d3 : DefD := ⟨"is_counted", top 12, ["thing"], ["thing"]⟩ -- is_counted
def d4 : DefD := ⟨"is_reason", top 13, ["thing"], ["thing"]⟩ -- is_reason
def d5 : DefD := ⟨"is_bar", top 14, ["thing"], ["thing"]⟩ -- is_bar
def d6 : DefD := ⟨"are_rising", top 15, ["things"], ["things", "place"]⟩ -- are_rising
def d7 : DefD := ⟨"are_names", top 16, ["thing"], ["thing", "name"]⟩ -- are_names
def d8 : DefD := ⟨"are_reasons", top 17, ["thing", "names"], ["thing", "names", "reason"]⟩ -- are_reasons
def d9 : DefD := ⟨"are_bars", top 18, ["thing", "names"], ["thing", "names", "bar"]⟩ -- are_bars
def d10 : DefD := ⟨"is_ground", top 19, ["thing"], ["thing"]⟩ -- is_ground
def d11 : DefD := ⟨"number_in", top 23, ["word"], ["word", "sign"]⟩ -- number_in
def d12 : DefD := ⟨"show_reason", top 25, ["reason"], ["reason", "weight", "one", "other", "number"]⟩ -- show_reason
def d13 : DefD := ⟨"show_bar", top 26, ["bar"], ["bar"]⟩ -- show_bar
def d14 : DefD := ⟨"show_ground", top 27, ["ground"], ["ground", "names", "reasons", "bars", "rows", "reason", "bar"]⟩ -- show_ground
def d15 : DefD := ⟨"reason_in", top 28, ["row"], ["row", "words", "pair", "reason"]⟩ -- reason_in
def d16 : DefD := ⟨"bar_in", top 29, ["row"], ["row", "words", "pair", "bar"]⟩ -- bar_in
def d17 : DefD := ⟨"names_in", top 30, ["row"], ["row", "words"]⟩ -- names_in
def d18 : DefD := ⟨"rank_of", top 31, ["row", "names"], ["row", "names", "reason", "bar"]⟩ -- rank_of
def d19 : DefD := ⟨"read_ground", top 32, ["text"], ["text", "rows", "names", "last", "place", "rank", "reasons", "row"]⟩ -- read_ground
def d20 : DefD := ⟨"_law_cell", top 34, ["_law_script", "_law_k"], ["_law_script", "_law_k", "_law_state", "_law_cell_here"]⟩ -- _law_cell
def d21 : DefD := ⟨"_law_numbers", top 35, ["_law_cell_here", "_law_many"], ["_law_cell_here", "_law_many", "_law_found", "_law_state", "_law_digits", "_law_k"]⟩ -- _law_numbers
def d22 : DefD := ⟨"_law_names", top 36, ["_law_xs", "_law_many"], ["_law_xs", "_law_many", "_law_letters", "_law_stem", "_law_at", "_law_found", "_law_k", "_law_mark", "_law_name"]⟩ -- _law_names
def d23 : DefD := ⟨"_law_ground", top 37, ["_law_script", "_law_at", "_law_many", "_law_reasons", "_law_bars"], ["_law_script", "_law_at", "_law_many", "_law_reasons", "_law_bars", "_law_head", "_law_names_here", "_law_told", "_law_k", "_law_xs", "_law_a", "_law_b", "_law_weight", "_law_found", "_law_shut"]⟩ -- _law_ground
def d24 : DefD := ⟨"_law_drawn", top 38, ["_law_script"], ["_law_script", "_law_head", "_law_names_here", "_law_reasons", "_law_bars", "_law_weight", "_law_a", "_law_b", "_law_number", "_law_more", "_law_one"]⟩ -- _law_drawn
def d25 : DefD := ⟨"_law_text", top 39, ["_law_ground_here"], ["_law_ground_here", "_law_rows", "_law_weight", "_law_one", "_law_other", "_law_number"]⟩ -- _law_text
def d26 : DefD := ⟨"_law_right", top 40, ["_law_ground_here"], ["_law_ground_here", "_law_text_here", "_law_shown", "_law_found", "_law_part"]⟩ -- _law_right
def d27 : DefD := ⟨"law", top 41, ["_law_script"], ["_law_script", "_law_ground_here", "_law_cell_here", "_law_xs", "_law_reasons", "_law_bars", "_law_k"]⟩ -- law
def T : List DefD := [d0, d1, d2, d3, d4, d5, d6, d7, d8, d9, d10, d11, d12, d13, d14, d15, d16, d17, d18, d19, d20, d21, d22, d23, d24, d25, d26, d27]
def G : GT := ⟨[("is_name", 0), ("is_number", 1), ("are_two_names", 2), ("is_counted", 3), ("is_reason", 4), ("is_bar", 5), ("are_rising", 6), ("are_names", 7), ("are_reasons", 8), ("are_bars", 9), ("is_ground", 10), ("number_in", 11), ("show_reason", 12), ("show_bar", 13), ("show_ground", 14), ("reason_in", 15), ("bar_in", 16), ("names_in", 17), ("rank_of", 18), ("read_ground", 19), ("_law_cell", 20), ("_law_numbers", 21), ("_law_names", 22), ("_law_ground", 23), ("_law_drawn", 24), ("_law_text", 25), ("_law_right", 26), ("law", 27)], [("SMALL", .str "abcdefghijklmnopqrstuvwxyz"), ("MOST_LETTERS", .int (8)), ("MOST_WEIGHT", .int (1000)), ("FIGURES", .str "0123456789"), ("MOST_FIGURES", .int (6))], ["abs", "all", "bool", "int", "isinstance", "len", "list", "max", "min", "range", "set", "sorted", "str", "tuple"], []⟩
set_option maxHeartbeats 0 in
theorem all_mk {l : PySem.W.OpenLaw} {w : World} {K : PySem.W.Frag} {h : Heap} {mg : Str → Option Value} {n : Nat} {fa f0 f1 f2 f3 f4 f5 f6 f7 f8 f9 f10 f11 f12 f13 f14 f15 f16 f17 f18 f19 f20 f21 f22 f23 f24 f25 f26 f27 : Addr} (X : K.In h) (G0 : h.Ns mainGlobals mg) (hfa : mg "law" = some (.ref fa)) (hl : LawOk T G n 27)
    {od0 an0 od1 an1 od2 an2 od3 an3 od4 an4 od5 an5 od6 an6 od7 an7 od8 an8 od9 an9 od10 an10 od11 an11 od12 an12 od13 an13 od14 an14 od15 an15 od16 an16 od17 an17 od18 an18 od19 an19 od20 an20 od21 an21 od22 an22 od23 an23 od24 an24 od25 an25 od26 an26 od27 an27 : Option Addr} {sl0 sl1 sl2 sl3 sl4 sl5 sl6 sl7 sl8 sl9 sl10 sl11 sl12 sl13 sl14 sl15 sl16 sl17 sl18 sl19 sl20 sl21 sl22 sl23 sl24 sl25 sl26 sl27 : Array (Option Value)} {oc0 kV0 dc0 pm0 cd0 ct0 oc1 kV1 dc1 pm1 cd1 ct1 oc2 kV2 dc2 pm2 cd2 ct2 oc3 kV3 dc3 pm3 cd3 ct3 oc4 kV4 dc4 pm4 cd4 ct4 oc5 kV5 dc5 pm5 cd5 ct5 oc6 kV6 dc6 pm6 cd6 ct6 oc7 kV7 dc7 pm7 cd7 ct7 oc8 kV8 dc8 pm8 cd8 ct8 oc9 kV9 dc9 pm9 cd9 ct9 oc10 kV10 dc10 pm10 cd10 ct10 oc11 kV11 dc11 pm11 cd11 ct11 oc12 kV12 dc12 pm12 cd12 ct12 oc13 kV13 dc13 pm13 cd13 ct13 oc14 kV14 dc14 pm14 cd14 ct14 oc15 kV15 dc15 pm15 cd15 ct15 oc16 kV16 dc16 pm16 cd16 ct16 oc17 kV17 dc17 pm17 cd17 ct17 oc18 kV18 dc18 pm18 cd18 ct18 oc19 kV19 dc19 pm19 cd19 ct19 oc20 kV20 dc20 pm20 cd20 ct20 oc21 kV21 dc21 pm21 cd21 ct21 oc22 kV22 dc22 pm22 cd22 ct22 oc23 kV23 dc23 pm23 cd23 ct23 oc24 kV24 dc24 pm24 cd24 ct24 oc25 kV25 dc25 pm25 cd25 ct25 oc26 kV26 dc26 pm26 cd26 ct26 oc27 kV27 dc27 pm27 cd27 ct27 : Value} {tk0 tk1 tk2 tk3 tk4 : Tok}
    (a0 : PySem.W.nsIn K mainGlobals "is_name" = some (some (.ref f0))) (l0 : K.lookup f0 = some ⟨oc0, od0, .func (PySem.W.fnOf "is_name" "is_name" (defArgs (top 6)) (defBody (top 6)) (defScope (top 6)) .none kV0 dc0 pm0 an0 cd0 ct0), sl0⟩) (c0 : PySem.W.codeIn K cd0 "is_name" = true) (k0 : PySem.W.keepIn K (.ref f0) = true)
    (a1 : PySem.W.nsIn K mainGlobals "is_number" = some (some (.ref f1))) (l1 : K.lookup f1 = some ⟨oc1, od1, .func (PySem.W.fnOf "is_number" "is_number" (defArgs (top 9)) (defBody (top 9)) (defScope (top 9)) .none kV1 dc1 pm1 an1 cd1 ct1), sl1⟩) (c1 : PySem.W.codeIn K cd1 "is_number" = true) (k1 : PySem.W.keepIn K (.ref f1) = true)
    (a2 : PySem.W.nsIn K mainGlobals "are_two_names" = some (some (.ref f2))) (l2 : K.lookup f2 = some ⟨oc2, od2, .func (PySem.W.fnOf "are_two_names" "are_two_names" (defArgs (top 11)) (defBody (top 11)) (defScope (top 11)) .none kV2 dc2 pm2 an2 cd2 ct2), sl2⟩) (c2 : PySem.W.codeIn K cd2 "are_two_names" = true) (k2 : PySem.W.keepIn K (.ref f2) = true)
    (a3 : PySem.W.nsIn K mainGlobals "is_counted" = some (some (.ref f3))) (l3 : K.lookup f3 = some ⟨oc3, od3, .func (PySem.W.fnOf "is_counted" "is_counted" (defArgs (top 12)) (defBody (top 12)) (defScope (top 12)) .none kV3 dc3 pm3 an3 cd3 ct3), sl3⟩) (c3 : PySem.W.codeIn K cd3 "is_counted" = true) (k3 : PySem.W.keepIn K (.ref f3) = true)
    (a4 : PySem.W.nsIn K mainGlobals "is_reason" = some (some (.ref f4))) (l4 : K.lookup f4 = some ⟨oc4, od4, .func (PySem.W.fnOf "is_reason" "is_reason" (defArgs (top 13)) (defBody (top 13)) (defScope (top 13)) .none kV4 dc4 pm4 an4 cd4 ct4), sl4⟩) (c4 : PySem.W.codeIn K cd4 "is_reason" = true) (k4 : PySem.W.keepIn K (.ref f4) = true)
    (a5 : PySem.W.nsIn K mainGlobals "is_bar" = some (some (.ref f5))) (l5 : K.lookup f5 = some ⟨oc5, od5, .func (PySem.W.fnOf "is_bar" "is_bar" (defArgs (top 14)) (defBody (top 14)) (defScope (top 14)) .none kV5 dc5 pm5 an5 cd5 ct5), sl5⟩) (c5 : PySem.W.codeIn K cd5 "is_bar" = true) (k5 : PySem.W.keepIn K (.ref f5) = true)
    (a6 : PySem.W.nsIn K mainGlobals "are_rising" = some (some (.ref f6))) (l6 : K.lookup f6 = some ⟨oc6, od6, .func (PySem.W.fnOf "are_rising" "are_rising" (defArgs (top 15)) (defBody (top 15)) (defScope (top 15)) .none kV6 dc6 pm6 an6 cd6 ct6), sl6⟩) (c6 : PySem.W.codeIn K cd6 "are_rising" = true) (k6 : PySem.W.keepIn K (.ref f6) = true)
    (a7 : PySem.W.nsIn K mainGlobals "are_names" = some (some (.ref f7))) (l7 : K.lookup f7 = some ⟨oc7, od7, .func (PySem.W.fnOf "are_names" "are_names" (defArgs (top 16)) (defBody (top 16)) (defScope (top 16)) .none kV7 dc7 pm7 an7 cd7 ct7), sl7⟩) (c7 : PySem.W.codeIn K cd7 "are_names" = true) (k7 : PySem.W.keepIn K (.ref f7) = true)
    (a8 : PySem.W.nsIn K mainGlobals "are_reasons" = some (some (.ref f8))) (l8 : K.lookup f8 = some ⟨oc8, od8, .func (PySem.W.fnOf "are_reasons" "are_reasons" (defArgs (top 17)) (defBody (top 17)) (defScope (top 17)) .none kV8 dc8 pm8 an8 cd8 ct8), sl8⟩) (c8 : PySem.W.codeIn K cd8 "are_reasons" = true) (k8 : PySem.W.keepIn K (.ref f8) = true)
    (a9 : PySem.W.nsIn K mainGlobals "are_bars" = some (some (.ref f9))) (l9 : K.lookup f9 = some ⟨oc9, od9, .func (PySem.W.fnOf "are_bars" "are_bars" (defArgs (top 18)) (defBody (top 18)) (defScope (top 18)) .none kV9 dc9 pm9 an9 cd9 ct9), sl9⟩) (c9 : PySem.W.codeIn K cd9 "are_bars" = true) (k9 : PySem.W.keepIn K (.ref f9) = true)
    (a10 : PySem.W.nsIn K mainGlobals "is_ground" = some (some (.ref f10))) (l10 : K.lookup f10 = some ⟨oc10, od10, .func (PySem.W.fnOf "is_ground" "is_ground" (defArgs (top 19)) (defBody (top 19)) (defScope (top 19)) .none kV10 dc10 pm10 an10 cd10 ct10), sl10⟩) (c10 : PySem.W.codeIn K cd10 "is_ground" = true) (k10 : PySem.W.keepIn K (.ref f10) = true)
    (a11 : PySem.W.nsIn K mainGlobals "number_in" = some (some (.ref f11))) (l11 : K.lookup f11 = some ⟨oc11, od11, .func (PySem.W.fnOf "number_in" "number_in" (defArgs (top 23)) (defBody (top 23)) (defScope (top 23)) .none kV11 dc11 pm11 an11 cd11 ct11), sl11⟩) (c11 : PySem.W.codeIn K cd11 "number_in" = true) (k11 : PySem.W.keepIn K (.ref f11) = true)
    (a12 : PySem.W.nsIn K mainGlobals "show_reason" = some (some (.ref f12))) (l12 : K.lookup f12 = some ⟨oc12, od12, .func (PySem.W.fnOf "show_reason" "show_reason" (defArgs (top 25)) (defBody (top 25)) (defScope (top 25)) .none kV12 dc12 pm12 an12 cd12 ct12), sl12⟩) (c12 : PySem.W.codeIn K cd12 "show_reason" = true) (k12 : PySem.W.keepIn K (.ref f12) = true)
    (a13 : PySem.W.nsIn K mainGlobals "show_bar" = some (some (.ref f13))) (l13 : K.lookup f13 = some ⟨oc13, od13, .func (PySem.W.fnOf "show_bar" "show_bar" (defArgs (top 26)) (defBody (top 26)) (defScope (top 26)) .none kV13 dc13 pm13 an13 cd13 ct13), sl13⟩) (c13 : PySem.W.codeIn K cd13 "show_bar" = true) (k13 : PySem.W.keepIn K (.ref f13) = true)
    (a14 : PySem.W.nsIn K mainGlobals "show_ground" = some (some (.ref f14))) (l14 : K.lookup f14 = some ⟨oc14, od14, .func (PySem.W.fnOf "show_ground" "show_ground" (defArgs (top 27)) (defBody (top 27)) (defScope (top 27)) .none kV14 dc14 pm14 an14 cd14 ct14), sl14⟩) (c14 : PySem.W.codeIn K cd14 "show_ground" = true) (k14 : PySem.W.keepIn K (.ref f14) = true)
    (a15 : PySem.W.nsIn K mainGlobals "reason_in" = some (some (.ref f15))) (l15 : K.lookup f15 = some ⟨oc15, od15, .func (PySem.W.fnOf "reason_in" "reason_in" (defArgs (top 28)) (defBody (top 28)) (defScope (top 28)) .none kV15 dc15 pm15 an15 cd15 ct15), sl15⟩) (c15 : PySem.W.codeIn K cd15 "reason_in" = true) (k15 : PySem.W.keepIn K (.ref f15) = true)
    (a16 : PySem.W.nsIn K mainGlobals "bar_in" = some (some (.ref f16))) (l16 : K.lookup f16 = some ⟨oc16, od16, .func (PySem.W.fnOf "bar_in" "bar_in" (defArgs (top 29)) (defBody (top 29)) (defScope (top 29)) .none kV16 dc16 pm16 an16 cd16 ct16), sl16⟩) (c16 : PySem.W.codeIn K cd16 "bar_in" = true) (k16 : PySem.W.keepIn K (.ref f16) = true)
    (a17 : PySem.W.nsIn K mainGlobals "names_in" = some (some (.ref f17))) (l17 : K.lookup f17 = some ⟨oc17, od17, .func (PySem.W.fnOf "names_in" "names_in" (defArgs (top 30)) (defBody (top 30)) (defScope (top 30)) .none kV17 dc17 pm17 an17 cd17 ct17), sl17⟩) (c17 : PySem.W.codeIn K cd17 "names_in" = true) (k17 : PySem.W.keepIn K (.ref f17) = true)
    (a18 : PySem.W.nsIn K mainGlobals "rank_of" = some (some (.ref f18))) (l18 : K.lookup f18 = some ⟨oc18, od18, .func (PySem.W.fnOf "rank_of" "rank_of" (defArgs (top 31)) (defBody (top 31)) (defScope (top 31)) .none kV18 dc18 pm18 an18 cd18 ct18), sl18⟩) (c18 : PySem.W.codeIn K cd18 "rank_of" = true) (k18 : PySem.W.keepIn K (.ref f18) = true)
    (a19 : PySem.W.nsIn K mainGlobals "read_ground" = some (some (.ref f19))) (l19 : K.lookup f19 = some ⟨oc19, od19, .func (PySem.W.fnOf "read_ground" "read_ground" (defArgs (top 32)) (defBody (top 32)) (defScope (top 32)) .none kV19 dc19 pm19 an19 cd19 ct19), sl19⟩) (c19 : PySem.W.codeIn K cd19 "read_ground" = true) (k19 : PySem.W.keepIn K (.ref f19) = true)
    (a20 : PySem.W.nsIn K mainGlobals "_law_cell" = some (some (.ref f20))) (l20 : K.lookup f20 = some ⟨oc20, od20, .func (PySem.W.fnOf "_law_cell" "_law_cell" (defArgs (top 34)) (defBody (top 34)) (defScope (top 34)) .none kV20 dc20 pm20 an20 cd20 ct20), sl20⟩) (c20 : PySem.W.codeIn K cd20 "_law_cell" = true) (k20 : PySem.W.keepIn K (.ref f20) = true)
    (a21 : PySem.W.nsIn K mainGlobals "_law_numbers" = some (some (.ref f21))) (l21 : K.lookup f21 = some ⟨oc21, od21, .func (PySem.W.fnOf "_law_numbers" "_law_numbers" (defArgs (top 35)) (defBody (top 35)) (defScope (top 35)) .none kV21 dc21 pm21 an21 cd21 ct21), sl21⟩) (c21 : PySem.W.codeIn K cd21 "_law_numbers" = true) (k21 : PySem.W.keepIn K (.ref f21) = true)
    (a22 : PySem.W.nsIn K mainGlobals "_law_names" = some (some (.ref f22))) (l22 : K.lookup f22 = some ⟨oc22, od22, .func (PySem.W.fnOf "_law_names" "_law_names" (defArgs (top 36)) (defBody (top 36)) (defScope (top 36)) .none kV22 dc22 pm22 an22 cd22 ct22), sl22⟩) (c22 : PySem.W.codeIn K cd22 "_law_names" = true) (k22 : PySem.W.keepIn K (.ref f22) = true)
    (a23 : PySem.W.nsIn K mainGlobals "_law_ground" = some (some (.ref f23))) (l23 : K.lookup f23 = some ⟨oc23, od23, .func (PySem.W.fnOf "_law_ground" "_law_ground" (defArgs (top 37)) (defBody (top 37)) (defScope (top 37)) .none kV23 dc23 pm23 an23 cd23 ct23), sl23⟩) (c23 : PySem.W.codeIn K cd23 "_law_ground" = true) (k23 : PySem.W.keepIn K (.ref f23) = true)
    (a24 : PySem.W.nsIn K mainGlobals "_law_drawn" = some (some (.ref f24))) (l24 : K.lookup f24 = some ⟨oc24, od24, .func (PySem.W.fnOf "_law_drawn" "_law_drawn" (defArgs (top 38)) (defBody (top 38)) (defScope (top 38)) .none kV24 dc24 pm24 an24 cd24 ct24), sl24⟩) (c24 : PySem.W.codeIn K cd24 "_law_drawn" = true) (k24 : PySem.W.keepIn K (.ref f24) = true)
    (a25 : PySem.W.nsIn K mainGlobals "_law_text" = some (some (.ref f25))) (l25 : K.lookup f25 = some ⟨oc25, od25, .func (PySem.W.fnOf "_law_text" "_law_text" (defArgs (top 39)) (defBody (top 39)) (defScope (top 39)) .none kV25 dc25 pm25 an25 cd25 ct25), sl25⟩) (c25 : PySem.W.codeIn K cd25 "_law_text" = true) (k25 : PySem.W.keepIn K (.ref f25) = true)
    (a26 : PySem.W.nsIn K mainGlobals "_law_right" = some (some (.ref f26))) (l26 : K.lookup f26 = some ⟨oc26, od26, .func (PySem.W.fnOf "_law_right" "_law_right" (defArgs (top 40)) (defBody (top 40)) (defScope (top 40)) .none kV26 dc26 pm26 an26 cd26 ct26), sl26⟩) (c26 : PySem.W.codeIn K cd26 "_law_right" = true) (k26 : PySem.W.keepIn K (.ref f26) = true)
    (a27 : PySem.W.nsIn K mainGlobals "law" = some (some (.ref f27))) (l27 : K.lookup f27 = some ⟨oc27, od27, .func (PySem.W.fnOf "law" "law" (defArgs (top 41)) (defBody (top 41)) (defScope (top 41)) .none kV27 dc27 pm27 an27 cd27 ct27), sl27⟩) (c27 : PySem.W.codeIn K cd27 "law" = true) (k27 : PySem.W.keepIn K (.ref f27) = true)
    (u0 : PySem.W.nsIn K mainGlobals "SMALL" = some (some (.str "abcdefghijklmnopqrstuvwxyz" tk0)))
    (u1 : PySem.W.nsIn K mainGlobals "MOST_LETTERS" = some (some (.int (8) tk1)))
    (u2 : PySem.W.nsIn K mainGlobals "MOST_WEIGHT" = some (some (.int (1000) tk2)))
    (u3 : PySem.W.nsIn K mainGlobals "FIGURES" = some (some (.str "0123456789" tk3)))
    (u4 : PySem.W.nsIn K mainGlobals "MOST_FIGURES" = some (some (.int (6) tk4)))
    (z0 : PySem.W.nsIn K mainGlobals "abs" = some none)
    (z1 : PySem.W.nsIn K mainGlobals "all" = some none)
    (z2 : PySem.W.nsIn K mainGlobals "bool" = some none)
    (z3 : PySem.W.nsIn K mainGlobals "int" = some none)
    (z4 : PySem.W.nsIn K mainGlobals "isinstance" = some none)
    (z5 : PySem.W.nsIn K mainGlobals "len" = some none)
    (z6 : PySem.W.nsIn K mainGlobals "list" = some none)
    (z7 : PySem.W.nsIn K mainGlobals "max" = some none)
    (z8 : PySem.W.nsIn K mainGlobals "min" = some none)
    (z9 : PySem.W.nsIn K mainGlobals "range" = some none)
    (z10 : PySem.W.nsIn K mainGlobals "set" = some none)
    (z11 : PySem.W.nsIn K mainGlobals "sorted" = some none)
    (z12 : PySem.W.nsIn K mainGlobals "str" = some none)
    (z13 : PySem.W.nsIn K mainGlobals "tuple" = some none)
    : ∃ fd : FuncData, (∀ (s : Shared) (v : Value), BindsTo s fd ⟨[v], []⟩ [("_law_script", v)]) ∧ ∀ base : Heap, K.In base → base.Ns mainGlobals mg → FnOk l.prog w K mg base (L2.CX l.prog w) n fa fd ["_law_script"] (spLaw K) := by
  have e := hfa.symm.trans (PySem.W.mg_of X G0 a27)
  cases e
  have F0 := fun_mk (st := top 6) l0 c0 k0
  have B0 := F0.binds (ps := ["thing"]) fun _ _ _ _ _ _ us hl => match us, hl with | [_], _ => rfl
  have S0 : FnScope d0.N d0.ps (defScope d0.st) := ⟨rfl, rfl, rfl, by decide +kernel, rfl, by decide +kernel, by decide +kernel⟩
  have F1 := fun_mk (st := top 9) l1 c1 k1
  have B1 := F1.binds (ps := ["thing", "least", "most"]) fun _ _ _ _ _ _ us hl => match us, hl with | [_, _, _], _ => rfl
  have S1 : FnScope d1.N d1.ps (defScope d1.st) := ⟨rfl, rfl, rfl, by decide +kernel, rfl, by decide +kernel, by decide +kernel⟩
  have F2 := fun_mk (st := top 11) l2 c2 k2
  have B2 := F2.binds (ps := ["one", "other"]) fun _ _ _ _ _ _ us hl => match us, hl with | [_, _], _ => rfl
  have S2 : FnScope d2.N d2.ps (defScope d2.st) := ⟨rfl, rfl, rfl, by decide +kernel, rfl, by decide +kernel, by decide +kernel⟩
  have F3 := fun_mk (st := top 12) l3 c3 k3
  have B3 := F3.binds (ps := ["thing"]) fun _ _ _ _ _ _ us hl => match us, hl with | [_], _ => rfl
  have S3 : FnScope d3.N d3.ps (defScope d3.st) := ⟨rfl, rfl, rfl, by decide +kernel, rfl, by decide +kernel, by decide +kernel⟩
  have F4 := fun_mk (st := top 13) l4 c4 k4
  have B4 := F4.binds (ps := ["thing"]) fun _ _ _ _ _ _ us hl => match us, hl with | [_], _ => rfl
  have S4 : FnScope d4.N d4.ps (defScope d4.st) := ⟨rfl, rfl, rfl, by decide +kernel, rfl, by decide +kernel, by decide +kernel⟩
  have F5 := fun_mk (st := top 14) l5 c5 k5
  have B5 := F5.binds (ps := ["thing"]) fun _ _ _ _ _ _ us hl => match us, hl with | [_], _ => rfl
  have S5 : FnScope d5.N d5.ps (defScope d5.st) := ⟨rfl, rfl, rfl, by decide +kernel, rfl, by decide +kernel, by decide +kernel⟩
  have F6 := fun_mk (st := top 15) l6 c6 k6
  have B6 := F6.binds (ps := ["things"]) fun _ _ _ _ _ _ us hl => match us, hl with | [_], _ => rfl
  have S6 : FnScope d6.N d6.ps (defScope d6.st) := ⟨rfl, rfl, rfl, by decide +kernel, rfl, by decide +kernel, by decide +kernel⟩
  have F7 := fun_mk (st := top 16) l7 c7 k7
  have B7 := F7.binds (ps := ["thing"]) fun _ _ _ _ _ _ us hl => match us, hl with | [_], _ => rfl
  have S7 : FnScope d7.N d7.ps (defScope d7.st) := ⟨rfl, rfl, rfl, by decide +kernel, rfl, by decide +kernel, by decide +kernel⟩
  have F8 := fun_mk (st := top 17) l8 c8 k8
  have B8 := F8.binds (ps := ["thing", "names"]) fun _ _ _ _ _ _ us hl => match us, hl with | [_, _], _ => rfl
  have S8 : FnScope d8.N d8.ps (defScope d8.st) := ⟨rfl, rfl, rfl, by decide +kernel, rfl, by decide +kernel, by decide +kernel⟩
  have F9 := fun_mk (st := top 18) l9 c9 k9
  have B9 := F9.binds (ps := ["thing", "names"]) fun _ _ _ _ _ _ us hl => match us, hl with | [_, _], _ => rfl
  have S9 : FnScope d9.N d9.ps (defScope d9.st) := ⟨rfl, rfl, rfl, by decide +kernel, rfl, by decide +kernel, by decide +kernel⟩
  have F10 := fun_mk (st := top 19) l10 c10 k10
  have B10 := F10.binds (ps := ["thing"]) fun _ _ _ _ _ _ us hl => match us, hl with | [_], _ => rfl
  have S10 : FnScope d10.N d10.ps (defScope d10.st) := ⟨rfl, rfl, rfl, by decide +kernel, rfl, by decide +kernel, by decide +kernel⟩
  have F11 := fun_mk (st := top 23) l11 c11 k11
  have B11 := F11.binds (ps := ["word"]) fun _ _ _ _ _ _ us hl => match us, hl with | [_], _ => rfl
  have S11 : FnScope d11.N d11.ps (defScope d11.st) := ⟨rfl, rfl, rfl, by decide +kernel, rfl, by decide +kernel, by decide +kernel⟩
  have F12 := fun_mk (st := top 25) l12 c12 k12
  have B12 := F12.binds (ps := ["reason"]) fun _ _ _ _ _ _ us hl => match us, hl with | [_], _ => rfl
  have S12 : FnScope d12.N d12.ps (defScope d12.st) := ⟨rfl, rfl, rfl, by decide +kernel, rfl, by decide +kernel, by decide +kernel⟩
  have F13 := fun_mk (st := top 26) l13 c13 k13
  have B13 := F13.binds (ps := ["bar"]) fun _ _ _ _ _ _ us hl => match us, hl with | [_], _ => rfl
  have S13 : FnScope d13.N d13.ps (defScope d13.st) := ⟨rfl, rfl, rfl, by decide +kernel, rfl, by decide +kernel, by decide +kernel⟩
  have F14 := fun_mk (st := top 27) l14 c14 k14
  have B14 := F14.binds (ps := ["ground"]) fun _ _ _ _ _ _ us hl => match us, hl with | [_], _ => rfl
  have S14 : FnScope d14.N d14.ps (defScope d14.st) := ⟨rfl, rfl, rfl, by decide +kernel, rfl, by decide +kernel, by decide +kernel⟩
  have F15 := fun_mk (st := top 28) l15 c15 k15
  have B15 := F15.binds (ps := ["row"]) fun _ _ _ _ _ _ us hl => match us, hl with | [_], _ => rfl
  have S15 : FnScope d15.N d15.ps (defScope d15.st) := ⟨rfl, rfl, rfl, by decide +kernel, rfl, by decide +kernel, by decide +kernel⟩
  have F16 := fun_mk (st := top 29) l16 c16 k16
  have B16 := F16.binds (ps := ["row"]) fun _ _ _ _ _ _ us hl => match us, hl with | [_], _ => rfl
  have S16 : FnScope d16.N d16.ps (defScope d16.st) := ⟨rfl, rfl, rfl, by decide +kernel, rfl, by decide +kernel, by decide +kernel⟩
  have F17 := fun_mk (st := top 30) l17 c17 k17
  have B17 := F17.binds (ps := ["row"]) fun _ _ _ _ _ _ us hl => match us, hl with | [_], _ => rfl
  have S17 : FnScope d17.N d17.ps (defScope d17.st) := ⟨rfl, rfl, rfl, by decide +kernel, rfl, by decide +kernel, by decide +kernel⟩
  have F18 := fun_mk (st := top 31) l18 c18 k18
  have B18 := F18.binds (ps := ["row", "names"]) fun _ _ _ _ _ _ us hl => match us, hl with | [_, _], _ => rfl
  have S18 : FnScope d18.N d18.ps (defScope d18.st) := ⟨rfl, rfl, rfl, by decide +kernel, rfl, by decide +kernel, by decide +kernel⟩
  have F19 := fun_mk (st := top 32) l19 c19 k19
  have B19 := F19.binds (ps := ["text"]) fun _ _ _ _ _ _ us hl => match us, hl with | [_], _ => rfl
  have S19 : FnScope d19.N d19.ps (defScope d19.st) := ⟨rfl, rfl, rfl, by decide +kernel, rfl, by decide +kernel, by decide +kernel⟩
  have F20 := fun_mk (st := top 34) l20 c20 k20
  have B20 := F20.binds (ps := ["_law_script", "_law_k"]) fun _ _ _ _ _ _ us hl => match us, hl with | [_, _], _ => rfl
  have S20 : FnScope d20.N d20.ps (defScope d20.st) := ⟨rfl, rfl, rfl, by decide +kernel, rfl, by decide +kernel, by decide +kernel⟩
  have F21 := fun_mk (st := top 35) l21 c21 k21
  have B21 := F21.binds (ps := ["_law_cell_here", "_law_many"]) fun _ _ _ _ _ _ us hl => match us, hl with | [_, _], _ => rfl
  have S21 : FnScope d21.N d21.ps (defScope d21.st) := ⟨rfl, rfl, rfl, by decide +kernel, rfl, by decide +kernel, by decide +kernel⟩
  have F22 := fun_mk (st := top 36) l22 c22 k22
  have B22 := F22.binds (ps := ["_law_xs", "_law_many"]) fun _ _ _ _ _ _ us hl => match us, hl with | [_, _], _ => rfl
  have S22 : FnScope d22.N d22.ps (defScope d22.st) := ⟨rfl, rfl, rfl, by decide +kernel, rfl, by decide +kernel, by decide +kernel⟩
  have F23 := fun_mk (st := top 37) l23 c23 k23
  have B23 := F23.binds (ps := ["_law_script", "_law_at", "_law_many", "_law_reasons", "_law_bars"]) fun _ _ _ _ _ _ us hl => match us, hl with | [_, _, _, _, _], _ => rfl
  have S23 : FnScope d23.N d23.ps (defScope d23.st) := ⟨rfl, rfl, rfl, by decide +kernel, rfl, by decide +kernel, by decide +kernel⟩
  have F24 := fun_mk (st := top 38) l24 c24 k24
  have B24 := F24.binds (ps := ["_law_script"]) fun _ _ _ _ _ _ us hl => match us, hl with | [_], _ => rfl
  have S24 : FnScope d24.N d24.ps (defScope d24.st) := ⟨rfl, rfl, rfl, by decide +kernel, rfl, by decide +kernel, by decide +kernel⟩
  have F25 := fun_mk (st := top 39) l25 c25 k25
  have B25 := F25.binds (ps := ["_law_ground_here"]) fun _ _ _ _ _ _ us hl => match us, hl with | [_], _ => rfl
  have S25 : FnScope d25.N d25.ps (defScope d25.st) := ⟨rfl, rfl, rfl, by decide +kernel, rfl, by decide +kernel, by decide +kernel⟩
  have F26 := fun_mk (st := top 40) l26 c26 k26
  have B26 := F26.binds (ps := ["_law_ground_here"]) fun _ _ _ _ _ _ us hl => match us, hl with | [_], _ => rfl
  have S26 : FnScope d26.N d26.ps (defScope d26.st) := ⟨rfl, rfl, rfl, by decide +kernel, rfl, by decide +kernel, by decide +kernel⟩
  have F27 := fun_mk (st := top 41) l27 c27 k27
  have B27 := F27.binds (ps := ["_law_script"]) fun _ _ _ _ _ _ us hl => match us, hl with | [_], _ => rfl
  have S27 : FnScope d27.N d27.ps (defScope d27.st) := ⟨rfl, rfl, rfl, by decide +kernel, rfl, by decide +kernel, by decide +kernel⟩
  have D : DefsOk K mg T _ := .cons (d := d0) ⟨F0, PySem.W.mg_of X G0 a0, B0, S0⟩ (.cons (d := d1) ⟨F1, PySem.W.mg_of X G0 a1, B1, S1⟩ (.cons (d := d2) ⟨F2, PySem.W.mg_of X G0 a2, B2, S2⟩ (.cons (d := d3) ⟨F3, PySem.W.mg_of X G0 a3, B3, S3⟩ (.cons (d := d4) ⟨F4, PySem.W.mg_of X G0 a4, B4, S4⟩ (.cons (d := d5) ⟨F5, PySem.W.mg_of X G0 a5, B5, S5⟩ (.cons (d := d6) ⟨F6, PySem.W.mg_of X G0 a6, B6, S6⟩ (.cons (d := d7) ⟨F7, PySem.W.mg_of X G0 a7, B7, S7⟩ (.cons (d := d8) ⟨F8, PySem.W.mg_of X G0 a8, B8, S8⟩ (.cons (d := d9) ⟨F9, PySem.W.mg_of X G0 a9, B9, S9⟩ (.cons (d := d10) ⟨F10, PySem.W.mg_of X G0 a10, B10, S10⟩ (.cons (d := d11) ⟨F11, PySem.W.mg_of X G0 a11, B11, S11⟩ (.cons (d := d12) ⟨F12, PySem.W.mg_of X G0 a12, B12, S12⟩ (.cons (d := d13) ⟨F13, PySem.W.mg_of X G0 a13, B13, S13⟩ (.cons (d := d14) ⟨F14, PySem.W.mg_of X G0 a14, B14, S14⟩ (.cons (d := d15) ⟨F15, PySem.W.mg_of X G0 a15, B15, S15⟩ (.cons (d := d16) ⟨F16, PySem.W.mg_of X G0 a16, B16, S16⟩ (.cons (d := d17) ⟨F17, PySem.W.mg_of X G0 a17, B17, S17⟩ (.cons (d := d18) ⟨F18, PySem.W.mg_of X G0 a18, B18, S18⟩ (.cons (d := d19) ⟨F19, PySem.W.mg_of X G0 a19, B19, S19⟩ (.cons (d := d20) ⟨F20, PySem.W.mg_of X G0 a20, B20, S20⟩ (.cons (d := d21) ⟨F21, PySem.W.mg_of X G0 a21, B21, S21⟩ (.cons (d := d22) ⟨F22, PySem.W.mg_of X G0 a22, B22, S22⟩ (.cons (d := d23) ⟨F23, PySem.W.mg_of X G0 a23, B23, S23⟩ (.cons (d := d24) ⟨F24, PySem.W.mg_of X G0 a24, B24, S24⟩ (.cons (d := d25) ⟨F25, PySem.W.mg_of X G0 a25, B25, S25⟩ (.cons (d := d26) ⟨F26, PySem.W.mg_of X G0 a26, B26, S26⟩ (.cons (d := d27) ⟨F27, PySem.W.mg_of X G0 a27, B27, S27⟩ (.nil))))))))))))))))))))))))))))
  have C : ConstsOk mg G.consts := .cons (PySem.W.mg_of X G0 u0) (v := .str "abcdefghijklmnopqrstuvwxyz") rfl ⟨_, rfl⟩ (.cons (PySem.W.mg_of X G0 u1) (v := .int (8)) rfl ⟨_, rfl⟩ (.cons (PySem.W.mg_of X G0 u2) (v := .int (1000)) rfl ⟨_, rfl⟩ (.cons (PySem.W.mg_of X G0 u3) (v := .str "0123456789") rfl ⟨_, rfl⟩ (.cons (PySem.W.mg_of X G0 u4) (v := .int (6)) rfl ⟨_, rfl⟩ (.nil)))))
  have Z : NonesOk mg G.bis := .cons (PySem.W.mg_none_of X G0 z0) (.cons (PySem.W.mg_none_of X G0 z1) (.cons (PySem.W.mg_none_of X G0 z2) (.cons (PySem.W.mg_none_of X G0 z3) (.cons (PySem.W.mg_none_of X G0 z4) (.cons (PySem.W.mg_none_of X G0 z5) (.cons (PySem.W.mg_none_of X G0 z6) (.cons (PySem.W.mg_none_of X G0 z7) (.cons (PySem.W.mg_none_of X G0 z8) (.cons (PySem.W.mg_none_of X G0 z9) (.cons (PySem.W.mg_none_of X G0 z10) (.cons (PySem.W.mg_none_of X G0 z11) (.cons (PySem.W.mg_none_of X G0 z12) (.cons (PySem.W.mg_none_of X G0 z13) (.nil))))))))))))))
  have M := mod_of (G := G) (fa, PySem.W.fnOf "law" "law" (defArgs (top 41)) (defBody (top 41)) (defScope (top 41)) .none kV27 dc27 pm27 an27 cd27 ct27) D (by decide +kernel) C Z
  exact ⟨PySem.W.fnOf "law" "law" (defArgs (top 41)) (defBody (top 41)) (defScope (top 41)) .none kV27 dc27 pm27 an27 cd27 ct27, fun s v => .of_eq rfl, fun base _ _ => law_fn (d := d27) M rfl rfl hl⟩
end K51

set_option Elab.async false
set_option linter.all false
set_option maxRecDepth 100000
set_option maxHeartbeats 8000000
namespace K51
open PySem L2 Ev
/-- is_name('thing', 'sign') -/
def bd0 (fn : Nat → List D → Res D) : Cmd :=
  cSeqS (cIfS (cB (cOr (cNot (cIsi (cSlot 0) "str")) (cNot (cChain leD leD (cLit (.int 1)) (cN lenG [cSlot 0]) (cLit (.int 8)))))) (cSeqS (cRet (cLit (.bool false))) <|
    cNext) (cNext)) <|
  cSeqS (cRet (cN allG [cComp [1] false [1] (cSeq (cSlot 0)) cYes (c2 inD (cSlot 1) (cLit (.str "abcdefghijklmnopqrstuvwxyz")))])) <|
  cNext
theorem q0 (fn : Nat → List D → Res D) : cmdF fn G d0 = some (bd0 fn) := by kernel_rfl
theorem e0 (n : Nat) (as : List D) : evF T G (n + 1) 0 as = runF 1 2 (bd0 (evF T G n)) as := by
  show runO 1 2 (cmdF (evF T G n) G d0) as = _
  rw [q0]; rfl
/-- is_number('thing', 'least', 'most') -/
def bd1 (fn : Nat → List D → Res D) : Cmd :=
  cSeqS (cRet (cAnd (cIsi (cSlot 0) "int") (cAnd (cNot (cIsi (cSlot 0) "bool")) (cChain leD leD (cSlot 1) (cSlot 0) (cSlot 2))))) <|
  cNext
theorem q1 (fn : Nat → List D → Res D) : cmdF fn G d1 = some (bd1 fn) := by kernel_rfl
theorem e1 (n : Nat) (as : List D) : evF T G (n + 1) 1 as = runF 3 3 (bd1 (evF T G n)) as := by
  show runO 3 3 (cmdF (evF T G n) G d1) as = _
  rw [q1]; rfl
/-- are_two_names('one', 'other') -/
def bd2 (fn : Nat → List D → Res D) : Cmd :=
  cSeqS (cRet (cAnd (cCall fn 0 [cSlot 0]) (cAnd (cCall fn 0 [cSlot 1]) (c2 ltD (cSlot 0) (cSlot 1))))) <|
  cNext
theorem q2 (fn : Nat → List D → Res D) : cmdF fn G d2 = some (bd2 fn) := by kernel_rfl
theorem e2 (n : Nat) (as : List D) : evF T G (n + 1) 2 as = runF 2 2 (bd2 (evF T G n)) as := by
  show runO 2 2 (cmdF (evF T G n) G d2) as = _
  rw [q2]; rfl
/-- is_counted('thing',) -/
def bd3 (fn : Nat → List D → Res D) : Cmd :=
  cSeqS (cRet (cAnd (cIsi (cSlot 0) "int") (cAnd (cNot (cIsi (cSlot 0) "bool")) (c2 geD (cSlot 0) (cLit (.int 0)))))) <|
  cNext
theorem q3 (fn : Nat → List D → Res D) : cmdF fn G d3 = some (bd3 fn) := by kernel_rfl
theorem e3 (n : Nat) (as : List D) : evF T G (n + 1) 3 as = runF 1 1 (bd3 (evF T G n)) as := by
  show runO 1 1 (cmdF (evF T G n) G d3) as = _
  rw [q3]; rfl
/-- is_reason('thing',) -/
def bd4 (fn : Nat → List D → Res D) : Cmd :=
  cSeqS (cIfS (cB (cOr (cNot (cIsi (cSlot 0) "tuple")) (cOr (c2 neD (cN lenG [cSlot 0]) (cLit (.int 4))) (cNot (cCall fn 1 [c2 ixD (cSlot 0) (cLit (.int 0)), cLit (.int 1), cLit (.int 1000)]))))) (cSeqS (cRet (cLit (.bool false))) <|
    cNext) (cNext)) <|
  cSeqS (cRet (cAnd (cCall fn 2 [c2 ixD (cSlot 0) (cLit (.int 1)), c2 ixD (cSlot 0) (cLit (.int 2))]) (cCall fn 3 [c2 ixD (cSlot 0) (cLit (.int 3))]))) <|
  cNext
theorem q4 (fn : Nat → List D → Res D) : cmdF fn G d4 = some (bd4 fn) := by kernel_rfl
theorem e4 (n : Nat) (as : List D) : evF T G (n + 1) 4 as = runF 1 1 (bd4 (evF T G n)) as := by
  show runO 1 1 (cmdF (evF T G n) G d4) as = _
  rw [q4]; rfl
/-- is_bar('thing',) -/
def bd5 (fn : Nat → List D → Res D) : Cmd :=
  cSeqS (cRet (cAnd (cIsi (cSlot 0) "tuple") (cAnd (c2 eqD (cN lenG [cSlot 0]) (cLit (.int 3))) (cAnd (cCall fn 2 [c2 ixD (cSlot 0) (cLit (.int 0)), c2 ixD (cSlot 0) (cLit (.int 1))]) (cCall fn 3 [c2 ixD (cSlot 0) (cLit (.int 2))]))))) <|
  cNext
theorem q5 (fn : Nat → List D → Res D) : cmdF fn G d5 = some (bd5 fn) := by kernel_rfl
theorem e5 (n : Nat) (as : List D) : evF T G (n + 1) 5 as = runF 1 1 (bd5 (evF T G n)) as := by
  show runO 1 1 (cmdF (evF T G n) G d5) as = _
  rw [q5]; rfl
/-- are_rising('things', 'place') -/
def bd6 (fn : Nat → List D → Res D) : Cmd :=
  cSeqS (cRet (cN allG [cComp [1] false [1] (cSrc rng2 [cLit (.int 1), cN lenG [cSlot 0]]) cYes (c2 ltD (c2 ixD (cSlot 0) (c2 subD (cSlot 1) (cLit (.int 1)))) (c2 ixD (cSlot 0) (cSlot 1)))])) <|
  cNext
theorem q6 (fn : Nat → List D → Res D) : cmdF fn G d6 = some (bd6 fn) := by kernel_rfl
theorem e6 (n : Nat) (as : List D) : evF T G (n + 1) 6 as = runF 1 2 (bd6 (evF T G n)) as := by
  show runO 1 2 (cmdF (evF T G n) G d6) as = _
  rw [q6]; rfl
/-- are_names('thing', 'name') -/
def bd7 (fn : Nat → List D → Res D) : Cmd :=
  cSeqS (cRet (cAnd (cIsi (cSlot 0) "tuple") (cAnd (cN allG [cComp [1] false [1] (cSeq (cSlot 0)) cYes (cCall fn 0 [cSlot 1])]) (cCall fn 6 [cSlot 0])))) <|
  cNext
theorem q7 (fn : Nat → List D → Res D) : cmdF fn G d7 = some (bd7 fn) := by kernel_rfl
theorem e7 (n : Nat) (as : List D) : evF T G (n + 1) 7 as = runF 1 2 (bd7 (evF T G n)) as := by
  show runO 1 2 (cmdF (evF T G n) G d7) as = _
  rw [q7]; rfl
/-- are_reasons('thing', 'names', 'reason') -/
def bd8 (fn : Nat → List D → Res D) : Cmd :=
  cSeqS (cIfS (cB (cOr (cNot (cIsi (cSlot 0) "tuple")) (cNot (cN allG [cComp [2] false [2] (cSeq (cSlot 0)) cYes (cCall fn 4 [cSlot 2])])))) (cSeqS (cRet (cLit (.bool false))) <|
    cNext) (cNext)) <|
  cSeqS (cIfS (cB (cNot (cN allG [cComp [2] false [2] (cSeq (cSlot 0)) cYes (cAnd (c2 inD (c2 ixD (cSlot 2) (cLit (.int 1))) (cSlot 1)) (c2 inD (c2 ixD (cSlot 2) (cLit (.int 2))) (cSlot 1)))]))) (cSeqS (cRet (cLit (.bool false))) <|
    cNext) (cNext)) <|
  cSeqS (cRet (cCall fn 6 [cComp [2] false [2] (cSeq (cSlot 0)) cYes (c2 addD (cTup [c2 subD (cLit (.int 0)) (c2 ixD (cSlot 2) (cLit (.int 0)))]) (cSl (cSlot 2) (some (cLit (.int 1))) none))])) <|
  cNext
theorem q8 (fn : Nat → List D → Res D) : cmdF fn G d8 = some (bd8 fn) := by kernel_rfl
theorem e8 (n : Nat) (as : List D) : evF T G (n + 1) 8 as = runF 2 3 (bd8 (evF T G n)) as := by
  show runO 2 3 (cmdF (evF T G n) G d8) as = _
  rw [q8]; rfl
/-- are_bars('thing', 'names', 'bar') -/
def bd9 (fn : Nat → List D → Res D) : Cmd :=
  cSeqS (cIfS (cB (cOr (cNot (cIsi (cSlot 0) "tuple")) (cNot (cN allG [cComp [2] false [2] (cSeq (cSlot 0)) cYes (cCall fn 5 [cSlot 2])])))) (cSeqS (cRet (cLit (.bool false))) <|
    cNext) (cNext)) <|
  cSeqS (cRet (cAnd (cN allG [cComp [2] false [2] (cSeq (cSlot 0)) cYes (cAnd (c2 inD (c2 ixD (cSlot 2) (cLit (.int 0))) (cSlot 1)) (c2 inD (c2 ixD (cSlot 2) (cLit (.int 1))) (cSlot 1)))]) (cCall fn 6 [cSlot 0]))) <|
  cNext
theorem q9 (fn : Nat → List D → Res D) : cmdF fn G d9 = some (bd9 fn) := by kernel_rfl
theorem e9 (n : Nat) (as : List D) : evF T G (n + 1) 9 as = runF 2 3 (bd9 (evF T G n)) as := by
  show runO 2 3 (cmdF (evF T G n) G d9) as = _
  rw [q9]; rfl
/-- is_ground('thing',) -/
def bd10 (fn : Nat → List D → Res D) : Cmd :=
  cSeqS (cIfS (cB (cOr (cNot (cIsi (cSlot 0) "tuple")) (cOr (c2 neD (cN lenG [cSlot 0]) (cLit (.int 3))) (cNot (cCall fn 7 [c2 ixD (cSlot 0) (cLit (.int 0))]))))) (cSeqS (cRet (cLit (.bool false))) <|
    cNext) (cNext)) <|
  cSeqS (cRet (cAnd (cCall fn 8 [c2 ixD (cSlot 0) (cLit (.int 1)), c2 ixD (cSlot 0) (cLit (.int 0))]) (cCall fn 9 [c2 ixD (cSlot 0) (cLit (.int 2)), c2 ixD (cSlot 0) (cLit (.int 0))]))) <|
  cNext
theorem q10 (fn : Nat → List D → Res D) : cmdF fn G d10 = some (bd10 fn) := by kernel_rfl
theorem e10 (n : Nat) (as : List D) : evF T G (n + 1) 10 as = runF 1 1 (bd10 (evF T G n)) as := by
  show runO 1 1 (cmdF (evF T G n) G d10) as = _
  rw [q10]; rfl
/-- number_in('word', 'sign') -/
def bd11 (fn : Nat → List D → Res D) : Cmd :=
  cSeqS (cIfS (cB (cOr (cNot (cChain leD leD (cLit (.int 1)) (cN lenG [cSlot 0]) (cLit (.int 6)))) (cNot (cN allG [cComp [1] false [1] (cSeq (cSlot 0)) cYes (c2 inD (cSlot 1) (cLit (.str "0123456789")))])))) (cSeqS (cRet (cLit .none)) <|
    cNext) (cNext)) <|
  cSeqS (cIfS (cB (cAnd (c2 eqD (c2 ixD (cSlot 0) (cLit (.int 0))) (cLit (.str "0"))) (c2 neD (cSlot 0) (cLit (.str "0"))))) (cSeqS (cRet (cLit .none)) <|
    cNext) (cNext)) <|
  cSeqS (cRet (cN intG [cSlot 0])) <|
  cNext
theorem q11 (fn : Nat → List D → Res D) : cmdF fn G d11 = some (bd11 fn) := by kernel_rfl
theorem e11 (n : Nat) (as : List D) : evF T G (n + 1) 11 as = runF 1 2 (bd11 (evF T G n)) as := by
  show runO 1 2 (cmdF (evF T G n) G d11) as = _
  rw [q11]; rfl
/-- show_reason('reason', 'weight', 'one', 'other', 'number') -/
def bd12 (fn : Nat → List D → Res D) : Cmd :=
  cSeqS (cAsg true [1, 2, 3, 4] (cSlot 0)) <|
  cSeqS (cRet (c2 addD (c2 addD (c2 addD (c2 addD (c2 addD (c2 addD (cSlot 2) (cLit (.str "-"))) (cSlot 3)) (cLit (.str " "))) (cN strG [cSlot 1])) (cLit (.str " "))) (cN strG [cSlot 4]))) <|
  cNext
theorem q12 (fn : Nat → List D → Res D) : cmdF fn G d12 = some (bd12 fn) := by kernel_rfl
theorem e12 (n : Nat) (as : List D) : evF T G (n + 1) 12 as = runF 1 5 (bd12 (evF T G n)) as := by
  show runO 1 5 (cmdF (evF T G n) G d12) as = _
  rw [q12]; rfl
/-- show_bar('bar',) -/
def bd13 (fn : Nat → List D → Res D) : Cmd :=
  cSeqS (cRet (c2 addD (c2 addD (c2 addD (c2 addD (c2 ixD (cSlot 0) (cLit (.int 0))) (cLit (.str "/"))) (c2 ixD (cSlot 0) (cLit (.int 1)))) (cLit (.str " "))) (cN strG [c2 ixD (cSlot 0) (cLit (.int 2))]))) <|
  cNext
theorem q13 (fn : Nat → List D → Res D) : cmdF fn G d13 = some (bd13 fn) := by kernel_rfl
theorem e13 (n : Nat) (as : List D) : evF T G (n + 1) 13 as = runF 1 1 (bd13 (evF T G n)) as := by
  show runO 1 1 (cmdF (evF T G n) G d13) as = _
  rw [q13]; rfl
/-- show_ground('ground', 'names', 'reasons', 'bars', 'rows', 'reason', 'bar') -/
def bd14 (fn : Nat → List D → Res D) : Cmd :=
  cSeqS (cAsg true [1, 2, 3] (cSlot 0)) <|
  cSeqS (cAsg false [4] (c2 addD (cLst [cM1 joinD (cLit (.str " ")) (c2 addD (cTup [cLit (.str "names")]) (cSlot 1))]) (cComp [5] false [5] (cSeq (cSlot 2)) cYes (cCall fn 12 [cSlot 5])))) <|
  cSeqS (cRet (cM1 joinD (cLit (.str "\n")) (c2 addD (cSlot 4) (cComp [6] false [6] (cSeq (cSlot 3)) cYes (cCall fn 13 [cSlot 6]))))) <|
  cNext
theorem q14 (fn : Nat → List D → Res D) : cmdF fn G d14 = some (bd14 fn) := by kernel_rfl
theorem e14 (n : Nat) (as : List D) : evF T G (n + 1) 14 as = runF 1 7 (bd14 (evF T G n)) as := by
  show runO 1 7 (cmdF (evF T G n) G d14) as = _
  rw [q14]; rfl
/-- reason_in('row', 'words', 'pair', 'reason') -/
def bd15 (fn : Nat → List D → Res D) : Cmd :=
  cSeqS (cAsg false [1] (cM1 splitD (cSlot 0) (cLit (.str " ")))) <|
  cSeqS (cAsg false [2] (cM1 splitD (c2 ixD (cSlot 1) (cLit (.int 0))) (cLit (.str "-")))) <|
  cSeqS (cIfS (cB (cOr (c2 neD (cN lenG [cSlot 1]) (cLit (.int 3))) (c2 neD (cN lenG [cSlot 2]) (cLit (.int 2))))) (cSeqS (cRet (cLit .none)) <|
    cNext) (cNext)) <|
  cSeqS (cAsg false [3] (cTup [cCall fn 11 [c2 ixD (cSlot 1) (cLit (.int 1))], c2 ixD (cSlot 2) (cLit (.int 0)), c2 ixD (cSlot 2) (cLit (.int 1)), cCall fn 11 [c2 ixD (cSlot 1) (cLit (.int 2))]])) <|
  cSeqS (cRet (cIf (cCall fn 4 [cSlot 3]) (cSlot 3) (cLit .none))) <|
  cNext
theorem q15 (fn : Nat → List D → Res D) : cmdF fn G d15 = some (bd15 fn) := by kernel_rfl
theorem e15 (n : Nat) (as : List D) : evF T G (n + 1) 15 as = runF 1 4 (bd15 (evF T G n)) as := by
  show runO 1 4 (cmdF (evF T G n) G d15) as = _
  rw [q15]; rfl
/-- bar_in('row', 'words', 'pair', 'bar') -/
def bd16 (fn : Nat → List D → Res D) : Cmd :=
  cSeqS (cAsg false [1] (cM1 splitD (cSlot 0) (cLit (.str " ")))) <|
  cSeqS (cAsg false [2] (cM1 splitD (c2 ixD (cSlot 1) (cLit (.int 0))) (cLit (.str "/")))) <|
  cSeqS (cIfS (cB (cOr (c2 neD (cN lenG [cSlot 1]) (cLit (.int 2))) (c2 neD (cN lenG [cSlot 2]) (cLit (.int 2))))) (cSeqS (cRet (cLit .none)) <|
    cNext) (cNext)) <|
  cSeqS (cAsg false [3] (cTup [c2 ixD (cSlot 2) (cLit (.int 0)), c2 ixD (cSlot 2) (cLit (.int 1)), cCall fn 11 [c2 ixD (cSlot 1) (cLit (.int 1))]])) <|
  cSeqS (cRet (cIf (cCall fn 5 [cSlot 3]) (cSlot 3) (cLit .none))) <|
  cNext
theorem q16 (fn : Nat → List D → Res D) : cmdF fn G d16 = some (bd16 fn) := by kernel_rfl
theorem e16 (n : Nat) (as : List D) : evF T G (n + 1) 16 as = runF 1 4 (bd16 (evF T G n)) as := by
  show runO 1 4 (cmdF (evF T G n) G d16) as = _
  rw [q16]; rfl
/-- names_in('row', 'words') -/
def bd17 (fn : Nat → List D → Res D) : Cmd :=
  cSeqS (cAsg false [1] (cM1 splitD (cSlot 0) (cLit (.str " ")))) <|
  cSeqS (cIfS (cB (cOr (c2 neD (c2 ixD (cSlot 1) (cLit (.int 0))) (cLit (.str "names"))) (cNot (cCall fn 7 [cN tupG [cSl (cSlot 1) (some (cLit (.int 1))) none]])))) (cSeqS (fun _ => .bad) <|
    cNext) (cNext)) <|
  cSeqS (cRet (cN tupG [cSl (cSlot 1) (some (cLit (.int 1))) none])) <|
  cNext
theorem q17 (fn : Nat → List D → Res D) : cmdF fn G d17 = some (bd17 fn) := by kernel_rfl
theorem e17 (n : Nat) (as : List D) : evF T G (n + 1) 17 as = runF 1 2 (bd17 (evF T G n)) as := by
  show runO 1 2 (cmdF (evF T G n) G d17) as = _
  rw [q17]; rfl
/-- rank_of('row', 'names', 'reason', 'bar') -/
def bd18 (fn : Nat → List D → Res D) : Cmd :=
  cSeqS (cAsg false [2] (cCall fn 15 [cSlot 0])) <|
  cSeqS (cIfS (cB (cAnd (c2 isNotD (cSlot 2) (cLit .none)) (cAnd (c2 inD (c2 ixD (cSlot 2) (cLit (.int 1))) (cSlot 1)) (c2 inD (c2 ixD (cSlot 2) (cLit (.int 2))) (cSlot 1))))) (cSeqS (cRet (c2 addD (cTup [cLit (.int 0), c2 subD (cLit (.int 0)) (c2 ixD (cSlot 2) (cLit (.int 0)))]) (cSl (cSlot 2) (some (cLit (.int 1))) none))) <|
    cNext) (cNext)) <|
  cSeqS (cAsg false [3] (cCall fn 16 [cSlot 0])) <|
  cSeqS (cIfS (cB (cAnd (c2 isNotD (cSlot 3) (cLit .none)) (cAnd (c2 inD (c2 ixD (cSlot 3) (cLit (.int 0))) (cSlot 1)) (c2 inD (c2 ixD (cSlot 3) (cLit (.int 1))) (cSlot 1))))) (cSeqS (cRet (c2 addD (cTup [cLit (.int 1), cLit (.int 0)]) (cSlot 3))) <|
    cNext) (cNext)) <|
  cSeqS (cRet (cLit .none)) <|
  cNext
theorem q18 (fn : Nat → List D → Res D) : cmdF fn G d18 = some (bd18 fn) := by kernel_rfl
theorem e18 (n : Nat) (as : List D) : evF T G (n + 1) 18 as = runF 2 4 (bd18 (evF T G n)) as := by
  show runO 2 4 (cmdF (evF T G n) G d18) as = _
  rw [q18]; rfl
def bd19s6 (fn : Nat → List D → Res D) : Cmd :=
  cSeqS (cRet (cTup [cSlot 2, cN tupG [cSlot 6], cN tupG [cComp [7] false [7] (cSeq (cSl (cSlot 1) (some (cLit (.int 1))) none)) (cB (c2 isNotD (cCall fn 16 [cSlot 7]) (cLit .none))) (cCall fn 16 [cSlot 7])]])) <| cNext
def bd19s5 (fn : Nat → List D → Res D) : Cmd :=
  cSeqS (cAsg false [6] (cComp [7] false [7] (cSeq (cSl (cSlot 1) (some (cLit (.int 1))) none)) (cB (c2 isNotD (cCall fn 15 [cSlot 7]) (cLit .none))) (cCall fn 15 [cSlot 7]))) <| bd19s6 fn
def bd19s4 (fn : Nat → List D → Res D) : Cmd :=
  cSeqS (cFor false [4] (cSrc rng2 [cLit (.int 1), cN lenG [cSlot 1]]) (cSeqS (cAsg false [5] (cCall fn 18 [c2 ixD (cSlot 1) (cSlot 4), cSlot 2])) <|
    cSeqS (cIfS (cB (cOr (c2 isD (cSlot 5) (cLit .none)) (cAnd (c2 gtD (cSlot 4) (cLit (.int 1))) (c2 leD (cSlot 5) (cSlot 3))))) (cSeqS (fun _ => .bad) <|
      cNext) (cNext)) <|
    cSeqS (cAsg false [3] (cSlot 5)) <|
    cNext)) <| bd19s5 fn
def bd19s3 (fn : Nat → List D → Res D) : Cmd :=
  cSeqS (cAsg false [3] (cTup [cLit (.int 0), cLit (.int 0)])) <| bd19s4 fn
def bd19s2 (fn : Nat → List D → Res D) : Cmd :=
  cSeqS (cAsg false [2] (cCall fn 17 [c2 ixD (cSlot 1) (cLit (.int 0))])) <| bd19s3 fn
def bd19s1 (fn : Nat → List D → Res D) : Cmd :=
  cSeqS (cAsg false [1] (cM1 splitD (cSlot 0) (cLit (.str "\n")))) <| bd19s2 fn
/-- read_ground('text', 'rows', 'names', 'last', 'place', 'rank', 'reasons', 'row') -/
def bd19 (fn : Nat → List D → Res D) : Cmd :=
  cSeqS (cIfS (cB (cNot (cIsi (cSlot 0) "str"))) (cSeqS (fun _ => .bad) <|
    cNext) (cNext)) <| bd19s1 fn
theorem q19 (fn : Nat → List D → Res D) : cmdF fn G d19 = some (bd19 fn) := by kernel_rfl
theorem e19 (n : Nat) (as : List D) : evF T G (n + 1) 19 as = runF 1 8 (bd19 (evF T G n)) as := by
  show runO 1 8 (cmdF (evF T G n) G d19) as = _
  rw [q19]; rfl
/-- _law_cell('_law_script', '_law_k', '_law_state', '_law_cell_here') -/
def bd20 (fn : Nat → List D → Res D) : Cmd :=
  cSeqS (cIfS (cB (c2 ltD (cSlot 1) (cN lenG [cSlot 0]))) (cSeqS (cRet (c2 ixD (cSlot 0) (cSlot 1))) <|
    cNext) (cNext)) <|
  cSeqS (cAsg false [2] (c2 modD (c2 mulD (cLit (.int 48271)) (c2 addD (c2 addD (c2 mulD (cSlot 1) (cSlot 1)) (c2 mulD (cLit (.int 7)) (cSlot 1))) (cLit (.int 11)))) (cLit (.int 2147483647)))) <|
  cSeqS (cFor false [3] (cSeq (cSl (cSlot 0) none (some (cLit (.int 3))))) (cSeqS (cAsg false [2] (c2 modD (c2 addD (c2 mulD (cSlot 2) (cLit (.int 69621))) (cSlot 3)) (cLit (.int 2147483647)))) <|
    cNext)) <|
  cSeqS (cRet (cSlot 2)) <|
  cNext
theorem q20 (fn : Nat → List D → Res D) : cmdF fn G d20 = some (bd20 fn) := by kernel_rfl
theorem e20 (n : Nat) (as : List D) : evF T G (n + 1) 20 as = runF 2 4 (bd20 (evF T G n)) as := by
  show runO 2 4 (cmdF (evF T G n) G d20) as = _
  rw [q20]; rfl
/-- _law_numbers('_law_cell_here', '_law_many', '_law_found', '_law_state', '_law_digits', '_law_k') -/
def bd21 (fn : Nat → List D → Res D) : Cmd :=
  cSeqS (cAsg false [2] (cLst [])) <|
  cSeqS (cAsg false [3] (c2 modD (c2 mulD (c2 addD (c2 modD (cSlot 0) (cLit (.int 1999999973))) (cLit (.int 31))) (cLit (.int 765432101))) (cLit (.int 1999999973)))) <|
  cSeqS (cAsg false [4] (cLit (.int 0))) <|
  cSeqS (cIfS (cB (cOr (c2 ltD (cSlot 0) (cLit (.int 0))) (c2 geD (cSlot 0) (c2 powD (cLit (.int 10)) (cLit (.int 18)))))) (cSeqS (cAsg false [4] (cN absG [cSlot 0])) <|
    cNext) (cNext)) <|
  cSeqS (cFor false [5] (cSrc rng1 [cSlot 1]) (cSeqS (cAsg false [3] (c2 modD (c2 addD (c2 addD (c2 mulD (cSlot 3) (c2 addD (c2 modD (cSlot 3) (cLit (.int 65521))) (cLit (.int 40487)))) (c2 mulD (cLit (.int 7)) (cSlot 5))) (cLit (.int 5))) (cLit (.int 1999999973)))) <|
    cSeqS (cAppend 2 (c2 ixD (cLst [cSlot 3, c2 modD (cSlot 4) (cLit (.int 1000000))]) (cN intG [c2 gtD (cSlot 4) (cLit (.int 0))]))) <|
    cSeqS (cAsg false [4] (c2 fdivD (cSlot 4) (cLit (.int 1000000)))) <|
    cNext)) <|
  cSeqS (cRet (cSlot 2)) <|
  cNext
theorem q21 (fn : Nat → List D → Res D) : cmdF fn G d21 = some (bd21 fn) := by kernel_rfl
theorem e21 (n : Nat) (as : List D) : evF T G (n + 1) 21 as = runF 2 6 (bd21 (evF T G n)) as := by
  show runO 2 6 (cmdF (evF T G n) G d21) as = _
  rw [q21]; rfl
/-- _law_names('_law_xs', '_law_many', '_law_letters', '_law_stem', '_law_at', '_law_found', '_law_k', '_law_mark', '_law_name') -/
def bd22 (fn : Nat → List D → Res D) : Cmd :=
  cSeqS (cAsg false [2] (cLit (.str "abcdefghijklmnopqrstuvwxyz"))) <|
  cSeqS (cAsg false [3] (cM1 joinD (cLit (.str "")) (cComp [6] false [6] (cSrc rng1 [c2 modD (c2 ixD (cSlot 0) (cLit (.int 0))) (cLit (.int 6))]) cYes (c2 ixD (cSlot 2) (c2 modD (c2 fdivD (c2 ixD (cSlot 0) (cSlot 6)) (cLit (.int 40))) (cLit (.int 26))))))) <|
  cSeqS (cAsg false [4] (c2 modD (c2 ixD (cSlot 0) (cLit (.int 1))) (c2 addD (cN lenG [cSlot 3]) (cLit (.int 1))))) <|
  cSeqS (cAsg false [5] (cLst [])) <|
  cSeqS (cFor false [6] (cSrc rng1 [cSlot 1]) (cSeqS (cAsg false [7] (c2 ixD (cSlot 2) (c2 modD (c2 addD (cSlot 6) (c2 ixD (cSlot 0) (cLit (.int 2)))) (cLit (.int 15))))) <|
    cSeqS (cAsg false [8] (c2 addD (c2 addD (cSl (cSlot 3) none (some (cSlot 4))) (cSlot 7)) (cSl (cSlot 3) (some (cSlot 4)) none))) <|
    cSeqS (cIfS (cB (c2 eqD (c2 modD (c2 ixD (cSlot 0) (cLit (.int 3))) (cLit (.int 3))) (cLit (.int 1)))) (cSeqS (cAsg false [8] (c2 mulD (c2 ixD (cSlot 2) (c2 fdivD (cSlot 6) (cLit (.int 8)))) (c2 addD (cLit (.int 1)) (c2 modD (cSlot 6) (cLit (.int 8)))))) <|
      cNext) (cNext)) <|
    cSeqS (cAppend 5 (cSlot 8)) <|
    cNext)) <|
  cSeqS (cRet (cSlot 5)) <|
  cNext
theorem q22 (fn : Nat → List D → Res D) : cmdF fn G d22 = some (bd22 fn) := by kernel_rfl
theorem e22 (n : Nat) (as : List D) : evF T G (n + 1) 22 as = runF 2 9 (bd22 (evF T G n)) as := by
  show runO 2 9 (cmdF (evF T G n) G d22) as = _
  rw [q22]; rfl
def bd23s7 (fn : Nat → List D → Res D) : Cmd :=
  cSeqS (cRet (cTup [cN tupG [cSlot 6], cN tupG [cSlot 13], cN tupG [c1 ssG (cSlot 14)]])) <| cNext
def bd23s6 (fn : Nat → List D → Res D) : Cmd :=
  cSeqS (cFor false [8] (cSrc rng1 [cSlot 4]) (cSeqS (cAsg false [9] (cCall fn 21 [cCall fn 20 [cSlot 0, c2 addD (c2 addD (cSlot 1) (cLit (.int 1))) (cSlot 8)], cLit (.int 8)])) <|
    cSeqS (cPar [10, 11] [c2 modD (c2 ixD (cSlot 9) (cLit (.int 5))) (cN max2G [cLit (.int 1), cSlot 2]), c2 modD (c2 ixD (cSlot 9) (cLit (.int 6))) (cN max2G [cLit (.int 1), cSlot 2])]) <|
    cSeqS (cIfS (cB (c2 neD (cSlot 10) (cSlot 11))) (cSeqS (cAppend 14 (cTup [c2 ixD (cSlot 6) (cN min2G [cSlot 10, cSlot 11]), c2 ixD (cSlot 6) (cN max2G [cSlot 10, cSlot 11]), c2 ixD (cLst [cLit (.int 2), cLit (.int 10)]) (c2 modD (c2 ixD (cSlot 9) (cLit (.int 7))) (cLit (.int 2)))])) <|
      cNext) (cNext)) <|
    cNext)) <| bd23s7 fn
def bd23s5 (fn : Nat → List D → Res D) : Cmd :=
  cSeqS (cAsg false [14] (cLst [])) <| bd23s6 fn
def bd23s4 (fn : Nat → List D → Res D) : Cmd :=
  cSeqS (cAsg false [13] (cComp [12, 10, 11, 8] true [12, 10, 11, 8] (cSeq (c1 ssG (cSlot 7))) cYes (cTup [c2 subD (cLit (.int 0)) (cSlot 12), cSlot 10, cSlot 11, cSlot 8]))) <| bd23s5 fn
def bd23s3 (fn : Nat → List D → Res D) : Cmd :=
  cSeqS (cFor false [8] (cSrc rng1 [cSlot 3]) (cSeqS (cAsg false [9] (cCall fn 21 [cCall fn 20 [cSlot 0, c2 addD (c2 addD (cSlot 1) (cLit (.int 1))) (cSlot 8)], cLit (.int 4)])) <|
    cSeqS (cPar [10, 11] [c2 modD (c2 ixD (cSlot 9) (cLit (.int 0))) (cN max2G [cLit (.int 1), cSlot 2]), c2 modD (c2 ixD (cSlot 9) (cLit (.int 1))) (cN max2G [cLit (.int 1), cSlot 2])]) <|
    cSeqS (cAsg false [12] (c2 ixD (cLst [c2 addD (cLit (.int 1)) (c2 modD (c2 ixD (cSlot 9) (cLit (.int 2))) (cLit (.int 3))), c2 addD (cLit (.int 1)) (c2 modD (c2 ixD (cSlot 9) (cLit (.int 2))) (cLit (.int 9))), c2 addD (cLit (.int 1)) (c2 modD (c2 ixD (cSlot 9) (cLit (.int 2))) (cLit (.int 1000)))]) (c2 modD (c2 ixD (cSlot 5) (cLit (.int 4))) (cLit (.int 3))))) <|
    cSeqS (cIfS (cB (c2 neD (cSlot 10) (cSlot 11))) (cSeqS (cAppend 7 (cTup [c2 subD (cLit (.int 0)) (cSlot 12), c2 ixD (cSlot 6) (cN min2G [cSlot 10, cSlot 11]), c2 ixD (cSlot 6) (cN max2G [cSlot 10, cSlot 11]), c2 ixD (cLst [cLit (.int 0), cLit (.int 2), cLit (.int 10)]) (c2 modD (c2 ixD (cSlot 9) (cLit (.int 3))) (cLit (.int 3)))])) <|
      cNext) (cNext)) <|
    cNext)) <| bd23s4 fn
def bd23s2 (fn : Nat → List D → Res D) : Cmd :=
  cSeqS (cAsg false [7] (cLst [])) <| bd23s3 fn
def bd23s1 (fn : Nat → List D → Res D) : Cmd :=
  cSeqS (cAsg false [6] (cN sortG [cCall fn 22 [cSlot 5, cSlot 2]])) <| bd23s2 fn
/-- _law_ground('_law_script', '_law_at', '_law_many', '_law_reasons', '_law_bars', '_law_head', '_law_names_here', '_law_told', '_law_k', '_law_xs', '_law_a', '_law_b', '_law_weight', '_law_found', '_law_shut') -/
def bd23 (fn : Nat → List D → Res D) : Cmd :=
  cSeqS (cAsg false [5] (cCall fn 21 [cCall fn 20 [cSlot 0, cSlot 1], cLit (.int 6)])) <| bd23s1 fn
theorem q23 (fn : Nat → List D → Res D) : cmdF fn G d23 = some (bd23 fn) := by kernel_rfl
theorem e23 (n : Nat) (as : List D) : evF T G (n + 1) 23 as = runF 5 15 (bd23 (evF T G n)) as := by
  show runO 5 15 (cmdF (evF T G n) G d23) as = _
  rw [q23]; rfl
/-- _law_drawn('_law_script', '_law_head', '_law_names_here', '_law_reasons', '_law_bars', '_law_weight', '_law_a', '_law_b', '_law_number', '_law_more', '_law_one') -/
def bd24 (fn : Nat → List D → Res D) : Cmd :=
  cSeqS (cAsg false [1] (cCall fn 21 [cCall fn 20 [cSlot 0, cLit (.int 0)], cLit (.int 9)])) <|
  cSeqS (cAsg true [2, 3, 4] (cCall fn 23 [cSlot 0, cLit (.int 0), c2 modD (c2 ixD (cSlot 1) (cLit (.int 6))) (cLit (.int 9)), c2 modD (c2 ixD (cSlot 1) (cLit (.int 7))) (cLit (.int 13)), c2 modD (c2 ixD (cSlot 1) (cLit (.int 8))) (cLit (.int 6))])) <|
  cSeqS (cIfS (cB (c2 eqD (c2 modD (c2 ixD (cSlot 1) (cLit (.int 5))) (cLit (.int 4))) (cLit (.int 1)))) (cSeqS (cAsg false [3] (cN tupG [cComp [5, 6, 7, 8] true [5, 6, 7, 8] (cSeq (cSlot 3)) cYes (cTup [cSlot 5, cSlot 6, cSlot 7, c2 mulD (cSlot 8) (cLit (.int 49999))])])) <|
    cSeqS (cAsg false [4] (cN tupG [cComp [6, 7, 8] true [6, 7, 8] (cSeq (cSlot 4)) cYes (cTup [cSlot 6, cSlot 7, c2 mulD (cSlot 8) (cLit (.int 50000))])])) <|
    cNext) (cNext)) <|
  cSeqS (cIfS (cB (cAnd (c2 gtD (c2 modD (c2 ixD (cSlot 1) (cLit (.int 5))) (cLit (.int 4))) (cLit (.int 1))) (c2 neD (cSlot 3) (cTup [])))) (cSeqS (cAsg true [5, 6, 7, 8] (c2 ixD (cSlot 3) (c2 modD (c2 fdivD (c2 ixD (cSlot 1) (cLit (.int 5))) (cLit (.int 4))) (cN lenG [cSlot 3])))) <|
    cSeqS (cAsg false [9] (cLst [cTup [c2 subD (cLit (.int 0)) (cSlot 5), cSlot 6, cSlot 7, cLit (.int 2)], cTup [c2 subD (cLit (.int 0)) (cSlot 5), cSlot 6, cSlot 7, cLit (.int 9)], cTup [c2 subD (cLit (.int 0)) (cSlot 5), cSlot 6, cSlot 7, cLit (.int 10)], cTup [c2 subD (cLit (.int 0)) (cSlot 5), cSlot 6, cSlot 7, cLit (.int 100)]])) <|
    cSeqS (cAsg false [9] (c1 ssG (c2 addD (cSlot 9) (cComp [10] false [10] (cSeq (cSlot 3)) cYes (c2 addD (cTup [c2 subD (cLit (.int 0)) (c2 ixD (cSlot 10) (cLit (.int 0)))]) (cSl (cSlot 10) (some (cLit (.int 1))) none)))))) <|
    cSeqS (cAsg false [3] (cN tupG [cComp [10] false [10] (cSeq (cSlot 9)) cYes (c2 addD (cTup [c2 subD (cLit (.int 0)) (c2 ixD (cSlot 10) (cLit (.int 0)))]) (cSl (cSlot 10) (some (cLit (.int 1))) none))])) <|
    cSeqS (cAsg false [4] (cN tupG [c1 ssG (c2 addD (cN lstG [cSlot 4]) (cLst [cTup [cSlot 6, cSlot 7, cLit (.int 2)], cTup [cSlot 6, cSlot 7, cLit (.int 10)], cTup [cSlot 6, cSlot 7, cLit (.int 100)]]))])) <|
    cNext) (cNext)) <|
  cSeqS (cRet (cTup [cSlot 2, cSlot 3, cSlot 4])) <|
  cNext
theorem q24 (fn : Nat → List D → Res D) : cmdF fn G d24 = some (bd24 fn) := by kernel_rfl
theorem e24 (n : Nat) (as : List D) : evF T G (n + 1) 24 as = runF 1 11 (bd24 (evF T G n)) as := by
  show runO 1 11 (cmdF (evF T G n) G d24) as = _
  rw [q24]; rfl
/-- _law_text('_law_ground_here', '_law_rows', '_law_weight', '_law_one', '_law_other', '_law_number') -/
def bd25 (fn : Nat → List D → Res D) : Cmd :=
  cSeqS (cAsg false [1] (cLst [cM1 joinD (cLit (.str " ")) (c2 addD (cLst [cLit (.str "names")]) (cN lstG [c2 ixD (cSlot 0) (cLit (.int 0))]))])) <|
  cSeqS (cFor true [2, 3, 4, 5] (cSeq (c2 ixD (cSlot 0) (cLit (.int 1)))) (cSeqS (cAppend 1 (c2 addD (c2 addD (c2 addD (c2 addD (c2 addD (c2 addD (cSlot 3) (cLit (.str "-"))) (cSlot 4)) (cLit (.str " "))) (cN strG [cSlot 2])) (cLit (.str " "))) (cN strG [cSlot 5]))) <|
    cNext)) <|
  cSeqS (cFor true [3, 4, 5] (cSeq (c2 ixD (cSlot 0) (cLit (.int 2)))) (cSeqS (cAppend 1 (c2 addD (c2 addD (c2 addD (c2 addD (cSlot 3) (cLit (.str "/"))) (cSlot 4)) (cLit (.str " "))) (cN strG [cSlot 5]))) <|
    cNext)) <|
  cSeqS (cRet (cM1 joinD (cLit (.str "\n")) (cSlot 1))) <|
  cNext
theorem q25 (fn : Nat → List D → Res D) : cmdF fn G d25 = some (bd25 fn) := by kernel_rfl
theorem e25 (n : Nat) (as : List D) : evF T G (n + 1) 25 as = runF 1 6 (bd25 (evF T G n)) as := by
  show runO 1 6 (cmdF (evF T G n) G d25) as = _
  rw [q25]; rfl
/-- _law_right('_law_ground_here', '_law_text_here', '_law_shown', '_law_found', '_law_part') -/
def bd26 (fn : Nat → List D → Res D) : Cmd :=
  cSeqS (cAsg false [1] (cCall fn 25 [cSlot 0])) <|
  cSeqS (cAsg false [2] (cCall fn 14 [cSlot 0])) <|
  cSeqS (cIfS (cB (cOr (cNot (cIsi (cSlot 2) "str")) (c2 neD (cSlot 2) (cSlot 1)))) (cSeqS (cRet (cLit (.bool false))) <|
    cNext) (cNext)) <|
  cSeqS (cAsg false [3] (cCall fn 19 [cSlot 1])) <|
  cSeqS (cIfS (cB (cOr (c2 neD (cSlot 3) (cSlot 0)) (cOr (c2 isNotD (cCall fn 10 [cSlot 3]) (cLit (.bool true))) (c2 neD (cCall fn 14 [cSlot 3]) (cSlot 1))))) (cSeqS (cRet (cLit (.bool false))) <|
    cNext) (cNext)) <|
  cSeqS (cRet (cN allG [cComp [4] false [4] (cSeq (c2 addD (c2 addD (c2 addD (cTup [cSlot 3]) (cSlot 3)) (c2 ixD (cSlot 3) (cLit (.int 1)))) (c2 ixD (cSlot 3) (cLit (.int 2))))) cYes (cIsi (cSlot 4) "tuple")])) <|
  cNext
theorem q26 (fn : Nat → List D → Res D) : cmdF fn G d26 = some (bd26 fn) := by kernel_rfl
theorem e26 (n : Nat) (as : List D) : evF T G (n + 1) 26 as = runF 1 5 (bd26 (evF T G n)) as := by
  show runO 1 5 (cmdF (evF T G n) G d26) as = _
  rw [q26]; rfl
/-- law('_law_script', '_law_ground_here', '_law_cell_here', '_law_xs', '_law_reasons', '_law_bars', '_law_k') -/
def bd27 (fn : Nat → List D → Res D) : Cmd :=
  cSeqS (cAsg false [1] (cCall fn 24 [cSlot 0])) <|
  cSeqS (cIfS (cB (cOr (cNot (cCall fn 26 [cSlot 1])) (cOr (cNot (cCall fn 26 [cTup [cTup [], cTup [], cTup []]])) (cNot (cCall fn 26 [cTup [c2 ixD (cSlot 1) (cLit (.int 0)), cTup [], cTup []]]))))) (cSeqS (cRet (cLit (.bool false))) <|
    cNext) (cNext)) <|
  cSeqS (cFor false [2] (cSeq (cSl (cSlot 0) (some (cLit (.int 1))) (some (cLit (.int 20))))) (cSeqS (cAsg false [3] (cCall fn 21 [cSlot 2, cLit (.int 28)])) <|
    cSeqS (cAsg false [4] (cN tupG [cComp [6] false [6] (cSrc rng1 [cN lenG [c2 ixD (cSlot 1) (cLit (.int 1))]]) (cB (c2 gtD (c2 modD (c2 ixD (cSlot 3) (cSlot 6)) (cLit (.int 3))) (cLit (.int 0)))) (c2 ixD (c2 ixD (cSlot 1) (cLit (.int 1))) (cSlot 6))])) <|
    cSeqS (cAsg false [5] (cN tupG [cComp [6] false [6] (cSrc rng1 [cN lenG [c2 ixD (cSlot 1) (cLit (.int 2))]]) (cB (c2 gtD (c2 modD (c2 ixD (cSlot 3) (c2 addD (cLit (.int 17)) (cSlot 6))) (cLit (.int 3))) (cLit (.int 0)))) (c2 ixD (c2 ixD (cSlot 1) (cLit (.int 2))) (cSlot 6))])) <|
    cSeqS (cIfS (cB (cNot (cCall fn 26 [cTup [c2 ixD (cSlot 1) (cLit (.int 0)), cSlot 4, cSlot 5]]))) (cSeqS (cRet (cLit (.bool false))) <|
      cNext) (cNext)) <|
    cNext)) <|
  cSeqS (cRet (cLit (.bool true))) <|
  cNext
theorem q27 (fn : Nat → List D → Res D) : cmdF fn G d27 = some (bd27 fn) := by kernel_rfl
theorem e27 (n : Nat) (as : List D) : evF T G (n + 1) 27 as = runF 1 7 (bd27 (evF T G n)) as := by
  show runO 1 7 (cmdF (evF T G n) G d27) as = _
  rw [q27]; rfl
end K51

set_option Elab.async false
set_option linter.all false
set_option maxRecDepth 100000
set_option maxHeartbeats 8000000
namespace K51
open PySem Ev
/-! what the law makes -/
theorem cell_ok (n : Nat) (ns : List Int) (k : Nat) (hk : k ≤ 1000) (hl : ns.length ≤ 63) : WP (evF T G (n + 1) 20 [.list (ns.map .int), .int (k : Nat)]) fun v => ∃ i, v = .int i := by
  rw [e20]
  refine wp_run rfl ?_
  simp only [bd20, startE, List.map, List.replicate, List.append, List.cons_append, List.nil_append, wp_ok, op_some, op_none, bp_bool, ip_int, lp_list, tp_tup, slot_0, slot_s, WP_cB, wp_slot, wp_lit, wp_c1, wp_c2, wp_nil, wp_cons, wp_cN, wp_and, wp_or, wp_not, wp_if, wp_tup, wp_lst, wp_chain, wp_isi, wp_part0, wp_part, wp_sl, wp_call, wp_callB, wp_get, wp_idx, dc_dict, wp_seq, wp_src, wf_next, wf_brk, wf_cnt, wf_retN, wf_seq, wf_ret, wf_drop, wf_asg, wf_asgT, wf_par, wf_if, wf_app, wf_setI, tg_name, tg_tup, add_int, add_str, add_list, add_tup, sub_int, mul_int, mod_int, fdiv_int, pow_int, lt_int, le_int, gt_int, ge_int, eq_int, eq_str, ne_int, ne_str, neg_int, abs_int, int_int, int_bool, tup_list, lst_tup, lst_list, len_str, len_list, len_tup, seq_list, seq_tup, seq_str, rng1_int, rng2_int, sl_list, sl_tup, sl_str, rev_list, rev_tup, upper_str, List.set_cons_zero, List.set_cons_succ, setAll, List.length_cons, List.length_nil, Bool.false_eq_true, if_true, if_false, ite_self, eq_self, Bool.not_true, Bool.not_false, line, Nat.reduceLeDiff, Nat.reduceLT, Nat.reduceAdd, Int.reduceLT, Int.reduceLE, true_and, and_true, ixt0, ixt1, ixt2, ixt3, ixl0, ixl1, ixl2, ixl3]
  have kk : ((k : Nat) : Int) ≤ 1000 := by omega
  have k2 : (k : Int) * (k : Int) ≤ 1000 * 1000 := Int.mul_le_mul kk kk (by omega) (by omega)
  have k3 : 0 ≤ (k : Int) * (k : Int) := Int.mul_nonneg (by omega) (by omega)
  split
  · rename_i h
    simp only [decide_eq_true_eq, List.length_map] at h
    refine ix_all (by omega) (by simpa using h) fun d hd => ?_
    obtain ⟨i, _, rfl⟩ := map_int hd
    exact ⟨i, rfl⟩
  · refine ⟨by rw [small_of (i := (k : Int)) (by omega) (by omega)]; rfl, by rw [small_of (i := 7) (by omega) (by omega)]; rfl, by rw [small_of (i := 48271) (by omega) (by omega)]; rfl, ?_⟩
    refine wf_for (fun ds j ρ => ∃ st x, ρ = [some (.list (ns.map .int)), some (.int (k : Nat)), some (.int st), x] ∧ 0 ≤ st ∧ st < 2147483647) ?_
    simp only [wp_ok, op_some, op_none, bp_bool, ip_int, lp_list, tp_tup, slot_0, slot_s, WP_cB, wp_slot, wp_lit, wp_c1, wp_c2, wp_nil, wp_cons, wp_cN, wp_and, wp_or, wp_not, wp_if, wp_tup, wp_lst, wp_chain, wp_isi, wp_part0, wp_part, wp_sl, wp_call, wp_callB, wp_get, wp_idx, dc_dict, wp_seq, wp_src, wf_next, wf_brk, wf_cnt, wf_retN, wf_seq, wf_ret, wf_drop, wf_asg, wf_asgT, wf_par, wf_if, wf_app, wf_setI, tg_name, tg_tup, add_int, add_str, add_list, add_tup, sub_int, mul_int, mod_int, fdiv_int, pow_int, lt_int, le_int, gt_int, ge_int, eq_int, eq_str, ne_int, ne_str, neg_int, abs_int, int_int, int_bool, tup_list, lst_tup, lst_list, len_str, len_list, len_tup, seq_list, seq_tup, seq_str, rng1_int, rng2_int, sl_list, sl_tup, sl_str, rev_list, rev_tup, upper_str, List.set_cons_zero, List.set_cons_succ, setAll, List.length_cons, List.length_nil, Bool.false_eq_true, if_true, if_false, ite_self, eq_self, Bool.not_true, Bool.not_false, line, Nat.reduceLeDiff, Nat.reduceLT, Nat.reduceAdd, Int.reduceLT, Int.reduceLE, true_and, and_true, ixt0, ixt1, ixt2, ixt3, ixl0, ixl1, ixl2, ixl3]
    refine ⟨⟨_, _, rfl, Int.emod_nonneg _ (by omega), Int.emod_lt_of_pos _ (by omega)⟩, fun j d ρ hj ⟨st, x, e, h0, h1⟩ => ?_, fun ρ ⟨st, x, e, h0, h1⟩ => ?_⟩
    · obtain ⟨i, _, rfl⟩ := map_int (cutD_mem (mem_get hj))
      subst e
      simp only [wp_ok, op_some, op_none, bp_bool, ip_int, lp_list, tp_tup, slot_0, slot_s, WP_cB, wp_slot, wp_lit, wp_c1, wp_c2, wp_nil, wp_cons, wp_cN, wp_and, wp_or, wp_not, wp_if, wp_tup, wp_lst, wp_chain, wp_isi, wp_part0, wp_part, wp_sl, wp_call, wp_callB, wp_get, wp_idx, dc_dict, wp_seq, wp_src, wf_next, wf_brk, wf_cnt, wf_retN, wf_seq, wf_ret, wf_drop, wf_asg, wf_asgT, wf_par, wf_if, wf_app, wf_setI, tg_name, tg_tup, add_int, add_str, add_list, add_tup, sub_int, mul_int, mod_int, fdiv_int, pow_int, lt_int, le_int, gt_int, ge_int, eq_int, eq_str, ne_int, ne_str, neg_int, abs_int, int_int, int_bool, tup_list, lst_tup, lst_list, len_str, len_list, len_tup, seq_list, seq_tup, seq_str, rng1_int, rng2_int, sl_list, sl_tup, sl_str, rev_list, rev_tup, upper_str, List.set_cons_zero, List.set_cons_succ, setAll, List.length_cons, List.length_nil, Bool.false_eq_true, if_true, if_false, ite_self, eq_self, Bool.not_true, Bool.not_false, line, Nat.reduceLeDiff, Nat.reduceLT, Nat.reduceAdd, Int.reduceLT, Int.reduceLE, true_and, and_true, ixt0, ixt1, ixt2, ixt3, ixl0, ixl1, ixl2, ixl3]
      exact ⟨by rw [small_of (i := st) (by omega) (by omega)]; rfl, _, _, rfl, Int.emod_nonneg _ (by omega), Int.emod_lt_of_pos _ (by omega)⟩
    · subst e
      simp only [wp_ok, op_some, op_none, bp_bool, ip_int, lp_list, tp_tup, slot_0, slot_s, WP_cB, wp_slot, wp_lit, wp_c1, wp_c2, wp_nil, wp_cons, wp_cN, wp_and, wp_or, wp_not, wp_if, wp_tup, wp_lst, wp_chain, wp_isi, wp_part0, wp_part, wp_sl, wp_call, wp_callB, wp_get, wp_idx, dc_dict, wp_seq, wp_src, wf_next, wf_brk, wf_cnt, wf_retN, wf_seq, wf_ret, wf_drop, wf_asg, wf_asgT, wf_par, wf_if, wf_app, wf_setI, tg_name, tg_tup, add_int, add_str, add_list, add_tup, sub_int, mul_int, mod_int, fdiv_int, pow_int, lt_int, le_int, gt_int, ge_int, eq_int, eq_str, ne_int, ne_str, neg_int, abs_int, int_int, int_bool, tup_list, lst_tup, lst_list, len_str, len_list, len_tup, seq_list, seq_tup, seq_str, rng1_int, rng2_int, sl_list, sl_tup, sl_str, rev_list, rev_tup, upper_str, List.set_cons_zero, List.set_cons_succ, setAll, List.length_cons, List.length_nil, Bool.false_eq_true, if_true, if_false, ite_self, eq_self, Bool.not_true, Bool.not_false, line, Nat.reduceLeDiff, Nat.reduceLT, Nat.reduceAdd, Int.reduceLT, Int.reduceLE, true_and, and_true, ixt0, ixt1, ixt2, ixt3, ixl0, ixl1, ixl2, ixl3]
      exact ⟨_, rfl⟩
/-- a list of numbers below the modulus -/
def Nums (m : Nat) (v : D) : Prop := ∃ l : List Int, v = .list (l.map .int) ∧ l.length = m ∧ ∀ i ∈ l, 0 ≤ i ∧ i < 1999999973
theorem loop10 (x : Int) (m : Nat) (hm : m ≤ 1000) (dg : Int) (hdg : 0 ≤ dg) : WF (cFor false [5] (cSrc rng1 [cSlot 1]) (cSeqS (cAsg false [3] (c2 modD (c2 addD (c2 addD (c2 mulD (cSlot 3) (c2 addD (c2 modD (cSlot 3) (cLit (.int 65521))) (cLit (.int 40487)))) (c2 mulD (cLit (.int 7)) (cSlot 5))) (cLit (.int 5))) (cLit (.int 1999999973)))) <|
    cSeqS (cAppend 2 (c2 ixD (cLst [cSlot 3, c2 modD (cSlot 4) (cLit (.int 1000000))]) (cN intG [c2 gtD (cSlot 4) (cLit (.int 0))]))) <|
    cSeqS (cAsg false [4] (c2 fdivD (cSlot 4) (cLit (.int 1000000)))) <|
    cNext) [some (.int x), some (.int (m : Nat)), some (.list []), some (.int ((x % 1999999973 + 31) * 765432101 % 1999999973)), some (.int dg), none]) (fun ρ' => slotP ρ' 2 (Nums m)) (fun _ => False) (fun _ => False) (Nums m) := by
  refine wf_for (fun ds j ρ => ∃ (l : List Int) (st dg : Int) (k : Option D), ρ = [some (.int x), some (.int (m : Nat)), some (.list (l.map .int)), some (.int st), some (.int dg), k] ∧ l.length = j ∧ (∀ i ∈ l, 0 ≤ i ∧ i < 1999999973) ∧ 0 ≤ st ∧ st < 1999999973 ∧ 0 ≤ dg) ?_
  simp only [wp_ok, op_some, op_none, bp_bool, ip_int, lp_list, tp_tup, slot_0, slot_s, WP_cB, wp_slot, wp_lit, wp_c1, wp_c2, wp_nil, wp_cons, wp_cN, wp_and, wp_or, wp_not, wp_if, wp_tup, wp_lst, wp_chain, wp_isi, wp_part0, wp_part, wp_sl, wp_call, wp_callB, wp_get, wp_idx, dc_dict, wp_seq, wp_src, wf_next, wf_brk, wf_cnt, wf_retN, wf_seq, wf_ret, wf_drop, wf_asg, wf_asgT, wf_par, wf_if, wf_app, wf_setI, tg_name, tg_tup, add_int, add_str, add_list, add_tup, sub_int, mul_int, mod_int, fdiv_int, pow_int, lt_int, le_int, gt_int, ge_int, eq_int, eq_str, ne_int, ne_str, neg_int, abs_int, int_int, int_bool, tup_list, lst_tup, lst_list, len_str, len_list, len_tup, seq_list, seq_tup, seq_str, rng1_int, rng2_int, sl_list, sl_tup, sl_str, rev_list, rev_tup, upper_str, List.set_cons_zero, List.set_cons_succ, setAll, List.length_cons, List.length_nil, Bool.false_eq_true, if_true, if_false, ite_self, eq_self, Bool.not_true, Bool.not_false, line, Nat.reduceLeDiff, Nat.reduceLT, Nat.reduceAdd, Int.reduceLT, Int.reduceLE, true_and, and_true, ixt0, ixt1, ixt2, ixt3, ixl0, ixl1, ixl2, ixl3]
  refine ⟨in62_nat (by omega), ⟨[], _, _, _, rfl, rfl, by simp, Int.emod_nonneg _ (by omega), Int.emod_lt_of_pos _ (by omega), hdg⟩, fun j d ρ hj ⟨l, st, dg, k, e, h0, h1, h2, h3, h4⟩ => ?_, fun ρ ⟨l, st, dg, k, e, h0, h1, h2, h3, h4⟩ => ?_⟩
  · obtain ⟨hj1, rfl⟩ := range_get hj
    subst e
    have lj : l.length < 16777216 := by
      have : j < m := by simpa using hj1
      omega
    have m1 : (small64 st || small64 (st % 65521 + 40487)) = true := by rw [small_of (i := st) (by omega) (by omega)]; rfl
    have m2 : (small64 7 || small64 (0 + (j : Int))) = true := by rw [small_of (i := 7) (by omega) (by omega)]; rfl
    simp only [wp_ok, op_some, op_none, bp_bool, ip_int, lp_list, tp_tup, slot_0, slot_s, WP_cB, wp_slot, wp_lit, wp_c1, wp_c2, wp_nil, wp_cons, wp_cN, wp_and, wp_or, wp_not, wp_if, wp_tup, wp_lst, wp_chain, wp_isi, wp_part0, wp_part, wp_sl, wp_call, wp_callB, wp_get, wp_idx, dc_dict, wp_seq, wp_src, wf_next, wf_brk, wf_cnt, wf_retN, wf_seq, wf_ret, wf_drop, wf_asg, wf_asgT, wf_par, wf_if, wf_app, wf_setI, tg_name, tg_tup, add_int, add_str, add_list, add_tup, sub_int, mul_int, mod_int, fdiv_int, pow_int, lt_int, le_int, gt_int, ge_int, eq_int, eq_str, ne_int, ne_str, neg_int, abs_int, int_int, int_bool, tup_list, lst_tup, lst_list, len_str, len_list, len_tup, seq_list, seq_tup, seq_str, rng1_int, rng2_int, sl_list, sl_tup, sl_str, rev_list, rev_tup, upper_str, List.set_cons_zero, List.set_cons_succ, setAll, List.length_cons, List.length_nil, Bool.false_eq_true, if_true, if_false, ite_self, eq_self, Bool.not_true, Bool.not_false, line, Nat.reduceLeDiff, Nat.reduceLT, Nat.reduceAdd, Int.reduceLT, Int.reduceLE, true_and, and_true, ixt0, ixt1, ixt2, ixt3, ixl0, ixl1, ixl2, ixl3, List.length_map, lj, m1, m2]
    generalize hs : (st * (st % 65521 + 40487) + 7 * (0 + (j : Int)) + 5) = st1
    have s0 := Int.emod_nonneg st1 (b := 1999999973) (by omega)
    have s1 := Int.emod_lt_of_pos st1 (b := 1999999973) (by omega)
    have t0 := Int.emod_nonneg dg (b := 1000000) (by omega)
    have t1 := Int.emod_lt_of_pos dg (b := 1000000) (by omega)
    have fin : ∀ i : Int, 0 ≤ i → i < 1999999973 → ∃ (l' : List Int) (st' dg' : Int) (k : Option D), ([some (.int x), some (.int (m : Nat)), some (.list (l.map .int ++ [.int i])), some (.int (st1 % 1999999973)), some (.int (dg / 1000000)), some (.int (0 + (j : Int)))] : Ev.Env) = [some (.int x), some (.int (m : Nat)), some (.list (l'.map .int)), some (.int st'), some (.int dg'), k] ∧ l'.length = j + 1 ∧ (∀ i ∈ l', 0 ≤ i ∧ i < 1999999973) ∧ 0 ≤ st' ∧ st' < 1999999973 ∧ 0 ≤ dg' := fun i i0 i1 =>
      ⟨l ++ [i], _, _, _, by rw [List.map_append]; rfl, by simp [h0], fun y hy => by
        rcases List.mem_append.mp hy with hy | hy
        · exact h1 y hy
        · rw [List.mem_singleton.mp hy]; exact ⟨i0, i1⟩, s0, s1, Int.ediv_nonneg h4 (by omega)⟩
    by_cases hd : 0 < dg
    · simp only [hd, decide_true, wp_ok, op_some, op_none, bp_bool, ip_int, lp_list, tp_tup, slot_0, slot_s, WP_cB, wp_slot, wp_lit, wp_c1, wp_c2, wp_nil, wp_cons, wp_cN, wp_and, wp_or, wp_not, wp_if, wp_tup, wp_lst, wp_chain, wp_isi, wp_part0, wp_part, wp_sl, wp_call, wp_callB, wp_get, wp_idx, dc_dict, wp_seq, wp_src, wf_next, wf_brk, wf_cnt, wf_retN, wf_seq, wf_ret, wf_drop, wf_asg, wf_asgT, wf_par, wf_if, wf_app, wf_setI, tg_name, tg_tup, add_int, add_str, add_list, add_tup, sub_int, mul_int, mod_int, fdiv_int, pow_int, lt_int, le_int, gt_int, ge_int, eq_int, eq_str, ne_int, ne_str, neg_int, abs_int, int_int, int_bool, tup_list, lst_tup, lst_list, len_str, len_list, len_tup, seq_list, seq_tup, seq_str, rng1_int, rng2_int, sl_list, sl_tup, sl_str, rev_list, rev_tup, upper_str, List.set_cons_zero, List.set_cons_succ, setAll, List.length_cons, List.length_nil, Bool.false_eq_true, if_true, if_false, ite_self, eq_self, Bool.not_true, Bool.not_false, line, Nat.reduceLeDiff, Nat.reduceLT, Nat.reduceAdd, Int.reduceLT, Int.reduceLE, true_and, and_true, ixt0, ixt1, ixt2, ixt3, ixl0, ixl1, ixl2, ixl3]
      exact ⟨by decide, fin _ t0 (by omega)⟩
    · simp only [hd, decide_false, wp_ok, op_some, op_none, bp_bool, ip_int, lp_list, tp_tup, slot_0, slot_s, WP_cB, wp_slot, wp_lit, wp_c1, wp_c2, wp_nil, wp_cons, wp_cN, wp_and, wp_or, wp_not, wp_if, wp_tup, wp_lst, wp_chain, wp_isi, wp_part0, wp_part, wp_sl, wp_call, wp_callB, wp_get, wp_idx, dc_dict, wp_seq, wp_src, wf_next, wf_brk, wf_cnt, wf_retN, wf_seq, wf_ret, wf_drop, wf_asg, wf_asgT, wf_par, wf_if, wf_app, wf_setI, tg_name, tg_tup, add_int, add_str, add_list, add_tup, sub_int, mul_int, mod_int, fdiv_int, pow_int, lt_int, le_int, gt_int, ge_int, eq_int, eq_str, ne_int, ne_str, neg_int, abs_int, int_int, int_bool, tup_list, lst_tup, lst_list, len_str, len_list, len_tup, seq_list, seq_tup, seq_str, rng1_int, rng2_int, sl_list, sl_tup, sl_str, rev_list, rev_tup, upper_str, List.set_cons_zero, List.set_cons_succ, setAll, List.length_cons, List.length_nil, Bool.false_eq_true, if_true, if_false, ite_self, eq_self, Bool.not_true, Bool.not_false, line, Nat.reduceLeDiff, Nat.reduceLT, Nat.reduceAdd, Int.reduceLT, Int.reduceLE, true_and, and_true, ixt0, ixt1, ixt2, ixt3, ixl0, ixl1, ixl2, ixl3]
      exact ⟨by decide, fin _ s0 s1⟩
  · subst e
    simp only [wp_ok, op_some, op_none, bp_bool, ip_int, lp_list, tp_tup, slot_0, slot_s, WP_cB, wp_slot, wp_lit, wp_c1, wp_c2, wp_nil, wp_cons, wp_cN, wp_and, wp_or, wp_not, wp_if, wp_tup, wp_lst, wp_chain, wp_isi, wp_part0, wp_part, wp_sl, wp_call, wp_callB, wp_get, wp_idx, dc_dict, wp_seq, wp_src, wf_next, wf_brk, wf_cnt, wf_retN, wf_seq, wf_ret, wf_drop, wf_asg, wf_asgT, wf_par, wf_if, wf_app, wf_setI, tg_name, tg_tup, add_int, add_str, add_list, add_tup, sub_int, mul_int, mod_int, fdiv_int, pow_int, lt_int, le_int, gt_int, ge_int, eq_int, eq_str, ne_int, ne_str, neg_int, abs_int, int_int, int_bool, tup_list, lst_tup, lst_list, len_str, len_list, len_tup, seq_list, seq_tup, seq_str, rng1_int, rng2_int, sl_list, sl_tup, sl_str, rev_list, rev_tup, upper_str, List.set_cons_zero, List.set_cons_succ, setAll, List.length_cons, List.length_nil, Bool.false_eq_true, if_true, if_false, ite_self, eq_self, Bool.not_true, Bool.not_false, line, Nat.reduceLeDiff, Nat.reduceLT, Nat.reduceAdd, Int.reduceLT, Int.reduceLE, true_and, and_true, ixt0, ixt1, ixt2, ixt3, ixl0, ixl1, ixl2, ixl3]
    refine ⟨l, rfl, ?_, h1⟩
    rw [h0, range_len]
    omega
theorem numbers_ok (n : Nat) (x : Int) (m : Nat) (hm : m ≤ 1000) : WP (evF T G (n + 1) 21 [.int x, .int (m : Nat)]) (Nums m) := by
  rw [e21]
  refine wp_run rfl ?_
  simp only [bd21, startE, List.map, List.replicate, List.append, List.cons_append, List.nil_append, wp_ok, op_some, op_none, bp_bool, ip_int, lp_list, tp_tup, slot_0, slot_s, WP_cB, wp_slot, wp_lit, wp_c1, wp_c2, wp_nil, wp_cons, wp_cN, wp_and, wp_or, wp_not, wp_if, wp_tup, wp_lst, wp_chain, wp_isi, wp_part0, wp_part, wp_sl, wp_call, wp_callB, wp_get, wp_idx, dc_dict, wp_seq, wp_src, wf_next, wf_brk, wf_cnt, wf_retN, wf_seq, wf_ret, wf_drop, wf_asg, wf_asgT, wf_par, wf_if, wf_app, wf_setI, tg_name, tg_tup, add_int, add_str, add_list, add_tup, sub_int, mul_int, mod_int, fdiv_int, pow_int, lt_int, le_int, gt_int, ge_int, eq_int, eq_str, ne_int, ne_str, neg_int, abs_int, int_int, int_bool, tup_list, lst_tup, lst_list, len_str, len_list, len_tup, seq_list, seq_tup, seq_str, rng1_int, rng2_int, sl_list, sl_tup, sl_str, rev_list, rev_tup, upper_str, List.set_cons_zero, List.set_cons_succ, setAll, List.length_cons, List.length_nil, Bool.false_eq_true, if_true, if_false, ite_self, eq_self, Bool.not_true, Bool.not_false, line, Nat.reduceLeDiff, Nat.reduceLT, Nat.reduceAdd, Int.reduceLT, Int.reduceLE, true_and, and_true, ixt0, ixt1, ixt2, ixt3, ixl0, ixl1, ixl2, ixl3]
  refine ⟨by rw [small_of (i := 765432101) (by omega) (by omega)]; exact Bool.or_true _, ?_⟩
  split
  · rename_i h
    have hx : x < 0 := by simpa using h
    exact loop10 x m hm _ (by rw [if_pos hx]; omega)
  · rename_i h
    have hx : ¬ x < 0 := by simpa using h
    refine ⟨by decide, ?_⟩
    split
    · exact loop10 x m hm _ (by omega)
    · exact loop10 x m hm _ (by omega)
end K51

set_option Elab.async false
set_option linter.all false
set_option maxRecDepth 100000
set_option maxHeartbeats 8000000
namespace K51
open PySem Ev
open TL (tl joinL tl_join join_eq len_tl tl_append ext_tl tl_ofString mk_tl split_join partition_app)
theorem names_ok (n : Nat) (xs : List Int) (hl : xs.length = 6) (h0 : ∀ i ∈ xs, 0 ≤ i ∧ i < 1999999973) (m : Nat) (hm : m ≤ 15) : WP (evF T G (n + 1) 22 [.list (xs.map .int), .int (m : Nat)]) (Names m) := by
  obtain ⟨a, b, c, d, e, f, rfl⟩ : ∃ a b c d e f, xs = [a, b, c, d, e, f] := by
    match xs, hl with
    | [a, b, c, d, e, f], _ => exact ⟨a, b, c, d, e, f, rfl⟩
  have ha := h0 a (by simp)
  have hb := h0 b (by simp)
  have hc := h0 c (by simp)
  have hd := h0 d (by simp)
  rw [e22]
  refine wp_run rfl ?_
  simp only [bd22, startE, List.map, List.replicate, List.append, List.cons_append, List.nil_append, wf_seq, wf_asg]
  rw [wp_lit]
  refine wp_cM1 ?_
  rw [wp_lit]
  refine ⟨_, rfl, ?_⟩
  refine wp_comp (fun _ y => ∃ c ∈ tl smallS, y = .str ⟨#[c]⟩) ?_
  simp only [wp_ok, op_some, op_none, bp_bool, ip_int, lp_list, tp_tup, slot_0, slot_s, WP_cB, wp_slot, wp_lit, wp_c1, wp_c2, wp_nil, wp_cons, wp_cN, wp_and, wp_or, wp_not, wp_if, wp_tup, wp_lst, wp_chain, wp_isi, wp_part0, wp_part, wp_sl, wp_call, wp_callB, wp_get, wp_idx, dc_dict, wp_seq, wp_src, wf_next, wf_brk, wf_cnt, wf_retN, wf_seq, wf_ret, wf_drop, wf_asg, wf_asgT, wf_par, wf_if, wf_app, wf_setI, tg_name, tg_tup, add_int, add_str, add_list, add_tup, sub_int, mul_int, mod_int, fdiv_int, pow_int, lt_int, le_int, gt_int, ge_int, eq_int, eq_str, ne_int, ne_str, neg_int, abs_int, int_int, int_bool, tup_list, lst_tup, lst_list, len_str, len_list, len_tup, seq_list, seq_tup, seq_str, rng1_int, rng2_int, sl_list, sl_tup, sl_str, rev_list, rev_tup, upper_str, List.set_cons_zero, List.set_cons_succ, setAll, List.length_cons, List.length_nil, Bool.false_eq_true, if_true, if_false, ite_self, eq_self, Bool.not_true, Bool.not_false, line, Nat.reduceLeDiff, Nat.reduceLT, Nat.reduceAdd, Int.reduceLT, Int.reduceLE, true_and, and_true, ixt0, ixt1, ixt2, ixt3, ixl0, ixl1, ixl2, ixl3]
  refine ⟨in62_of' (by omega) (by omega), by rw [range_len]; omega, fun d1 hd1 => ?_, fun ys p => ?_⟩
  · obtain ⟨k, hk, rfl⟩ := range_mem hd1
    refine ix_all (by omega) (by simp; omega) fun d2 hd2 => ?_
    obtain ⟨v, hv, rfl⟩ := map_int (ns := [a, b, c, d, e, f]) hd2
    simp only [wp_ok, op_some, op_none, bp_bool, ip_int, lp_list, tp_tup, slot_0, slot_s, WP_cB, wp_slot, wp_lit, wp_c1, wp_c2, wp_nil, wp_cons, wp_cN, wp_and, wp_or, wp_not, wp_if, wp_tup, wp_lst, wp_chain, wp_isi, wp_part0, wp_part, wp_sl, wp_call, wp_callB, wp_get, wp_idx, dc_dict, wp_seq, wp_src, wf_next, wf_brk, wf_cnt, wf_retN, wf_seq, wf_ret, wf_drop, wf_asg, wf_asgT, wf_par, wf_if, wf_app, wf_setI, tg_name, tg_tup, add_int, add_str, add_list, add_tup, sub_int, mul_int, mod_int, fdiv_int, pow_int, lt_int, le_int, gt_int, ge_int, eq_int, eq_str, ne_int, ne_str, neg_int, abs_int, int_int, int_bool, tup_list, lst_tup, lst_list, len_str, len_list, len_tup, seq_list, seq_tup, seq_str, rng1_int, rng2_int, sl_list, sl_tup, sl_str, rev_list, rev_tup, upper_str, List.set_cons_zero, List.set_cons_succ, setAll, List.length_cons, List.length_nil, Bool.false_eq_true, if_true, if_false, ite_self, eq_self, Bool.not_true, Bool.not_false, line, Nat.reduceLeDiff, Nat.reduceLT, Nat.reduceAdd, Int.reduceLT, Int.reduceLE, true_and, and_true, ixt0, ixt1, ixt2, ixt3, ixl0, ixl1, ixl2, ixl3]
    refine ⟨by decide, ix_sm (Int.emod_nonneg _ (by omega)) (Int.emod_lt_of_pos _ (by omega)) ⟨_, smL_mem _, rfl⟩⟩
  obtain ⟨cs, rfl, l, mm⟩ := paired_signs p
  rw [range_len] at l
  have s0 : ("" : Str).length = 0 := by decide +kernel
  have sone : ((cs.map fun c => (⟨#[c]⟩ : Str)).map (·.length)).sum ≤ 5 := by
    have e : (cs.map fun c => (⟨#[c]⟩ : Str)).map (·.length) = cs.map fun _ => 1 := by rw [List.map_map]; rfl
    rw [e, sum_ones]
    omega
  refine join_strs (by rw [s0]; omega) ?_
  have tz := join_signs cs
  revert tz
  generalize Txt.join ("" : Str) (cs.map fun c => (⟨#[c]⟩ : Str)) = Z
  intro tz
  have zl : Z.length ≤ 5 := by rw [len_tl, tz]; omega
  have zm : ∀ c ∈ tl Z, c ∈ tl smallS := by rw [tz]; exact mm
  simp only [wp_ok, op_some, op_none, bp_bool, ip_int, lp_list, tp_tup, slot_0, slot_s, WP_cB, wp_slot, wp_lit, wp_c1, wp_c2, wp_nil, wp_cons, wp_cN, wp_and, wp_or, wp_not, wp_if, wp_tup, wp_lst, wp_chain, wp_isi, wp_part0, wp_part, wp_sl, wp_call, wp_callB, wp_get, wp_idx, dc_dict, wp_seq, wp_src, wf_next, wf_brk, wf_cnt, wf_retN, wf_seq, wf_ret, wf_drop, wf_asg, wf_asgT, wf_par, wf_if, wf_app, wf_setI, tg_name, tg_tup, add_int, add_str, add_list, add_tup, sub_int, mul_int, mod_int, fdiv_int, pow_int, lt_int, le_int, gt_int, ge_int, eq_int, eq_str, ne_int, ne_str, neg_int, abs_int, int_int, int_bool, tup_list, lst_tup, lst_list, len_str, len_list, len_tup, seq_list, seq_tup, seq_str, rng1_int, rng2_int, sl_list, sl_tup, sl_str, rev_list, rev_tup, upper_str, List.set_cons_zero, List.set_cons_succ, setAll, List.length_cons, List.length_nil, Bool.false_eq_true, if_true, if_false, ite_self, eq_self, Bool.not_true, Bool.not_false, line, Nat.reduceLeDiff, Nat.reduceLT, Nat.reduceAdd, Int.reduceLT, Int.reduceLE, true_and, and_true, ixt0, ixt1, ixt2, ixt3, ixl0, ixl1, ixl2, ixl3]
  refine ⟨by omega, ?_⟩
  obtain ⟨cn, rfl⟩ := Int.eq_ofNat_of_zero_le hc.1
  have at0 := Int.emod_nonneg b (b := (Z.length : Int) + 1) (by omega)
  have at1 := Int.emod_lt_of_pos b (b := (Z.length : Int) + 1) (by omega)
  revert at0 at1
  generalize b % ((Z.length : Int) + 1) = at'
  intro at0 at1
  obtain ⟨k, rfl⟩ := Int.eq_ofNat_of_zero_le at0
  have hk : k ≤ Z.length := by omega
  have t1 := cut_fst Z k hk
  have t2 := cut_snd Z k hk
  have lAB : (L2.cutS Z none (some (k : Int))).length + (L2.cutS Z (some (k : Int)) none).length ≤ 5 := by
    rw [len_tl, len_tl, t1, t2, List.length_take, List.length_drop, ← len_tl]; omega
  refine ⟨by omega, ?_⟩
  have mA : ∀ c ∈ tl (L2.cutS Z none (some (k : Int))), c ∈ tl smallS := fun c hc => zm c (List.mem_of_mem_take (by rw [← t1]; exact hc))
  have mB : ∀ c ∈ tl (L2.cutS Z (some (k : Int)) none), c ∈ tl smallS := fun c hc => zm c (List.mem_of_mem_drop (by rw [← t2]; exact hc))
  refine wf_for (fun ds j ρ => ∃ (k1 k2 k3 : Option D), ρ = [some (.list [.int a, .int b, .int (cn : Int), .int d, .int e, .int f]), some (.int (m : Nat)), some (.str smallS), some (.str Z), some (.int (k : Int)), some (.list ((List.range j).map fun i => .str (if d % 3 = 1 then repN i else mkN (L2.cutS Z none (some (k : Int))) (L2.cutS Z (some (k : Int)) none) cn i))), k1, k2, k3]) ?_
  simp only [wp_ok, op_some, op_none, bp_bool, ip_int, lp_list, tp_tup, slot_0, slot_s, WP_cB, wp_slot, wp_lit, wp_c1, wp_c2, wp_nil, wp_cons, wp_cN, wp_and, wp_or, wp_not, wp_if, wp_tup, wp_lst, wp_chain, wp_isi, wp_part0, wp_part, wp_sl, wp_call, wp_callB, wp_get, wp_idx, dc_dict, wp_seq, wp_src, wf_next, wf_brk, wf_cnt, wf_retN, wf_seq, wf_ret, wf_drop, wf_asg, wf_asgT, wf_par, wf_if, wf_app, wf_setI, tg_name, tg_tup, add_int, add_str, add_list, add_tup, sub_int, mul_int, mod_int, fdiv_int, pow_int, lt_int, le_int, gt_int, ge_int, eq_int, eq_str, ne_int, ne_str, neg_int, abs_int, int_int, int_bool, tup_list, lst_tup, lst_list, len_str, len_list, len_tup, seq_list, seq_tup, seq_str, rng1_int, rng2_int, sl_list, sl_tup, sl_str, rev_list, rev_tup, upper_str, List.set_cons_zero, List.set_cons_succ, setAll, List.length_cons, List.length_nil, Bool.false_eq_true, if_true, if_false, ite_self, eq_self, Bool.not_true, Bool.not_false, line, Nat.reduceLeDiff, Nat.reduceLT, Nat.reduceAdd, Int.reduceLT, Int.reduceLE, true_and, and_true, ixt0, ixt1, ixt2, ixt3, ixl0, ixl1, ixl2, ixl3]
  refine ⟨in62_of' (by omega) (by omega), ⟨_, _, _, rfl⟩, fun j d1 ρ hj ⟨k1, k2, k3, e1⟩ => ?_, fun ρ ⟨k1, k2, k3, e1⟩ => ?_⟩
  · obtain ⟨hj1, rfl⟩ := range_get hj
    have hj15 : j < 15 := by omega
    subst e1
    simp only [wp_ok, op_some, op_none, bp_bool, ip_int, lp_list, tp_tup, slot_0, slot_s, WP_cB, wp_slot, wp_lit, wp_c1, wp_c2, wp_nil, wp_cons, wp_cN, wp_and, wp_or, wp_not, wp_if, wp_tup, wp_lst, wp_chain, wp_isi, wp_part0, wp_part, wp_sl, wp_call, wp_callB, wp_get, wp_idx, dc_dict, wp_seq, wp_src, wf_next, wf_brk, wf_cnt, wf_retN, wf_seq, wf_ret, wf_drop, wf_asg, wf_asgT, wf_par, wf_if, wf_app, wf_setI, tg_name, tg_tup, add_int, add_str, add_list, add_tup, sub_int, mul_int, mod_int, fdiv_int, pow_int, lt_int, le_int, gt_int, ge_int, eq_int, eq_str, ne_int, ne_str, neg_int, abs_int, int_int, int_bool, tup_list, lst_tup, lst_list, len_str, len_list, len_tup, seq_list, seq_tup, seq_str, rng1_int, rng2_int, sl_list, sl_tup, sl_str, rev_list, rev_tup, upper_str, List.set_cons_zero, List.set_cons_succ, setAll, List.length_cons, List.length_nil, Bool.false_eq_true, if_true, if_false, ite_self, eq_self, Bool.not_true, Bool.not_false, line, Nat.reduceLeDiff, Nat.reduceLT, Nat.reduceAdd, Int.reduceLT, Int.reduceLE, true_and, and_true, ixt0, ixt1, ixt2, ixt3, ixl0, ixl1, ixl2, ixl3]
    have e2 : ((0 + (j : Int) + (cn : Int)) % 15).toNat = (j + cn) % 15 := by omega
    refine ix_sm (by omega) (by omega) ?_
    rw [e2]
    simp only [wp_ok, op_some, op_none, bp_bool, ip_int, lp_list, tp_tup, slot_0, slot_s, WP_cB, wp_slot, wp_lit, wp_c1, wp_c2, wp_nil, wp_cons, wp_cN, wp_and, wp_or, wp_not, wp_if, wp_tup, wp_lst, wp_chain, wp_isi, wp_part0, wp_part, wp_sl, wp_call, wp_callB, wp_get, wp_idx, dc_dict, wp_seq, wp_src, wf_next, wf_brk, wf_cnt, wf_retN, wf_seq, wf_ret, wf_drop, wf_asg, wf_asgT, wf_par, wf_if, wf_app, wf_setI, tg_name, tg_tup, add_int, add_str, add_list, add_tup, sub_int, mul_int, mod_int, fdiv_int, pow_int, lt_int, le_int, gt_int, ge_int, eq_int, eq_str, ne_int, ne_str, neg_int, abs_int, int_int, int_bool, tup_list, lst_tup, lst_list, len_str, len_list, len_tup, seq_list, seq_tup, seq_str, rng1_int, rng2_int, sl_list, sl_tup, sl_str, rev_list, rev_tup, upper_str, List.set_cons_zero, List.set_cons_succ, setAll, List.length_cons, List.length_nil, Bool.false_eq_true, if_true, if_false, ite_self, eq_self, Bool.not_true, Bool.not_false, line, Nat.reduceLeDiff, Nat.reduceLT, Nat.reduceAdd, Int.reduceLT, Int.reduceLE, true_and, and_true, ixt0, ixt1, ixt2, ixt3, ixl0, ixl1, ixl2, ixl3]
    refine ⟨by omega, by rw [str_one]; omega, by omega, by rw [str_app, str_one]; omega, ?_⟩
    by_cases q : d % 3 = 1
    · simp only [q, decide_true, if_true]
      have e3 : ((0 + (j : Int)) / 8).toNat = j / 8 := by omega
      have e4 : (1 + (0 + (j : Int)) % 8).toNat = 1 + j % 8 := by omega
      refine ⟨by decide, ix_sm (by omega) (by omega) ?_⟩
      refine mul_str ⟨by omega, by omega, by rw [str_one]; omega, by rw [str_one]; omega⟩ ?_
      rw [e3, e4]
      rw [List.range_succ, List.map_append]
      exact ⟨by simp; omega, _, _, _, rfl⟩
    · simp only [q, decide_false, if_false, Bool.false_eq_true]
      rw [List.range_succ, List.map_append]
      exact ⟨by simp; omega, _, _, _, rfl⟩
  · subst e1
    simp only [wp_ok, op_some, op_none, bp_bool, ip_int, lp_list, tp_tup, slot_0, slot_s, WP_cB, wp_slot, wp_lit, wp_c1, wp_c2, wp_nil, wp_cons, wp_cN, wp_and, wp_or, wp_not, wp_if, wp_tup, wp_lst, wp_chain, wp_isi, wp_part0, wp_part, wp_sl, wp_call, wp_callB, wp_get, wp_idx, dc_dict, wp_seq, wp_src, wf_next, wf_brk, wf_cnt, wf_retN, wf_seq, wf_ret, wf_drop, wf_asg, wf_asgT, wf_par, wf_if, wf_app, wf_setI, tg_name, tg_tup, add_int, add_str, add_list, add_tup, sub_int, mul_int, mod_int, fdiv_int, pow_int, lt_int, le_int, gt_int, ge_int, eq_int, eq_str, ne_int, ne_str, neg_int, abs_int, int_int, int_bool, tup_list, lst_tup, lst_list, len_str, len_list, len_tup, seq_list, seq_tup, seq_str, rng1_int, rng2_int, sl_list, sl_tup, sl_str, rev_list, rev_tup, upper_str, List.set_cons_zero, List.set_cons_succ, setAll, List.length_cons, List.length_nil, Bool.false_eq_true, if_true, if_false, ite_self, eq_self, Bool.not_true, Bool.not_false, line, Nat.reduceLeDiff, Nat.reduceLT, Nat.reduceAdd, Int.reduceLT, Int.reduceLE, true_and, and_true, ixt0, ixt1, ixt2, ixt3, ixl0, ixl1, ixl2, ixl3]
    rw [range_len, show ((m : Nat) : Int).toNat = m from by omega]
    refine ⟨_, rfl, fun i hi => ?_, fun i hi j hj e => ?_⟩
    · split
      · exact repN_name i (by omega)
      · exact mkN_name lAB mA mB
    · by_cases q : d % 3 = 1
      · simp only [q, if_true] at e
        exact repN_inj i (by omega) j (by omega) e
      · simp only [q, if_false] at e
        exact mkN_inj (by omega) (by omega) e
end K51

set_option Elab.async false
set_option linter.all false
set_option maxRecDepth 100000
set_option maxHeartbeats 8000000
namespace K51
open PySem Ev
open TL (tl joinL tl_join join_eq len_tl tl_append ext_tl tl_ofString mk_tl split_join partition_app)
theorem told_ok (n : Nat) (ns : List Int) (hn : ns.length ≤ 63) (at' m R B : Nat) (ha : at' ≤ 100) (hm : m ≤ 15) (hR : R ≤ 50) (hs : List Int) (l6 : hs.length = 6) (h0 : ∀ i ∈ hs, 0 ≤ i ∧ i < 1999999973) (us : List Str) (lu : us.length = m) (adj : adjB us = true) (P : Ev.Env → Prop) (N A : Ev.Env → Prop) (Q : D → Prop)
    (q : ∀ (told : List RsT) (k1 k2 k3 k4 k5 : Option D), told.length ≤ R → (∀ t ∈ told, RsOk us (ngT t)) → WF (bd23s4 (evF T G (n + 1)) [some (.list (ns.map .int)), some (.int (at' : Nat)), some (.int (m : Nat)), some (.int (R : Nat)), some (.int (B : Nat)), some (.list (hs.map .int)), some (.list (us.map .str)), some (.list (told.map rsD)), k1, k2, k3, k4, k5, none, none]) P N A Q) :
    WF (bd23s3 (evF T G (n + 1)) [some (.list (ns.map .int)), some (.int (at' : Nat)), some (.int (m : Nat)), some (.int (R : Nat)), some (.int (B : Nat)), some (.list (hs.map .int)), some (.list (us.map .str)), some (.list []), none, none, none, none, none, none, none]) P N A Q := by
  simp only [bd23s3, wf_seq]
  refine wf_for (fun ds j ρ => ∃ (told : List RsT) (k1 k2 k3 k4 k5 : Option D), ρ = [some (.list (ns.map .int)), some (.int (at' : Nat)), some (.int (m : Nat)), some (.int (R : Nat)), some (.int (B : Nat)), some (.list (hs.map .int)), some (.list (us.map .str)), some (.list (told.map rsD)), k1, k2, k3, k4, k5, none, none] ∧ told.length ≤ j ∧ ∀ t ∈ told, RsOk us (ngT t)) ?_
  simp only [wp_ok, op_some, op_none, bp_bool, ip_int, lp_list, tp_tup, slot_0, slot_s, WP_cB, wp_slot, wp_lit, wp_c1, wp_c2, wp_nil, wp_cons, wp_cN, wp_and, wp_or, wp_not, wp_if, wp_tup, wp_lst, wp_chain, wp_isi, wp_part0, wp_part, wp_sl, wp_call, wp_callB, wp_get, wp_idx, dc_dict, wp_seq, wp_src, wf_next, wf_brk, wf_cnt, wf_retN, wf_seq, wf_ret, wf_drop, wf_asg, wf_asgT, wf_par, wf_if, wf_app, wf_setI, tg_name, tg_tup, add_int, add_str, add_list, add_tup, sub_int, mul_int, mod_int, fdiv_int, pow_int, lt_int, le_int, gt_int, ge_int, eq_int, eq_str, ne_int, ne_str, neg_int, abs_int, int_int, int_bool, tup_list, lst_tup, lst_list, len_str, len_list, len_tup, seq_list, seq_tup, seq_str, rng1_int, rng2_int, sl_list, sl_tup, sl_str, rev_list, rev_tup, upper_str, List.set_cons_zero, List.set_cons_succ, setAll, List.length_cons, List.length_nil, Bool.false_eq_true, if_true, if_false, ite_self, eq_self, Bool.not_true, Bool.not_false, line, Nat.reduceLeDiff, Nat.reduceLT, Nat.reduceAdd, Int.reduceLT, Int.reduceLE, true_and, and_true, ixt0, ixt1, ixt2, ixt3, ixl0, ixl1, ixl2, ixl3]
  refine ⟨in62_of' (by omega) (by omega), ⟨[], _, _, _, _, _, rfl, by simp, by simp⟩, fun j d1 ρ hj ⟨told, k1, k2, k3, k4, k5, e1, q1, q2⟩ => ?_, fun ρ ⟨told, k1, k2, k3, k4, k5, e1, q1, q2⟩ => ?_⟩
  · obtain ⟨hj1, rfl⟩ := range_get hj
    subst e1
    simp only [wp_ok, op_some, op_none, bp_bool, ip_int, lp_list, tp_tup, slot_0, slot_s, WP_cB, wp_slot, wp_lit, wp_c1, wp_c2, wp_nil, wp_cons, wp_cN, wp_and, wp_or, wp_not, wp_if, wp_tup, wp_lst, wp_chain, wp_isi, wp_part0, wp_part, wp_sl, wp_call, wp_callB, wp_get, wp_idx, dc_dict, wp_seq, wp_src, wf_next, wf_brk, wf_cnt, wf_retN, wf_seq, wf_ret, wf_drop, wf_asg, wf_asgT, wf_par, wf_if, wf_app, wf_setI, tg_name, tg_tup, add_int, add_str, add_list, add_tup, sub_int, mul_int, mod_int, fdiv_int, pow_int, lt_int, le_int, gt_int, ge_int, eq_int, eq_str, ne_int, ne_str, neg_int, abs_int, int_int, int_bool, tup_list, lst_tup, lst_list, len_str, len_list, len_tup, seq_list, seq_tup, seq_str, rng1_int, rng2_int, sl_list, sl_tup, sl_str, rev_list, rev_tup, upper_str, List.set_cons_zero, List.set_cons_succ, setAll, List.length_cons, List.length_nil, Bool.false_eq_true, if_true, if_false, ite_self, eq_self, Bool.not_true, Bool.not_false, line, Nat.reduceLeDiff, Nat.reduceLT, Nat.reduceAdd, Int.reduceLT, Int.reduceLE, true_and, and_true, ixt0, ixt1, ixt2, ixt3, ixl0, ixl1, ixl2, ixl3]
    have ec : (at' : Int) + 1 + (0 + (j : Int)) = ((at' + 1 + j : Nat) : Int) := by omega
    rw [ec]
    refine (cell_ok n ns (at' + 1 + j) (by omega) hn).imp fun v ⟨i2, e2⟩ => ?_
    subst e2
    refine (numbers_ok n i2 4 (by omega)).imp fun v ⟨xs, e2, l4, x0⟩ => ?_
    subst e2
    obtain ⟨a, b, c, d, rfl⟩ : ∃ a b c d, xs = [a, b, c, d] := by
      match xs, l4 with
      | [a, b, c, d], _ => exact ⟨a, b, c, d, rfl⟩
    simp only [wp_ok, op_some, op_none, bp_bool, ip_int, lp_list, tp_tup, slot_0, slot_s, WP_cB, wp_slot, wp_lit, wp_c1, wp_c2, wp_nil, wp_cons, wp_cN, wp_and, wp_or, wp_not, wp_if, wp_tup, wp_lst, wp_chain, wp_isi, wp_part0, wp_part, wp_sl, wp_call, wp_callB, wp_get, wp_idx, dc_dict, wp_seq, wp_src, wf_next, wf_brk, wf_cnt, wf_retN, wf_seq, wf_ret, wf_drop, wf_asg, wf_asgT, wf_par, wf_if, wf_app, wf_setI, tg_name, tg_tup, add_int, add_str, add_list, add_tup, sub_int, mul_int, mod_int, fdiv_int, pow_int, lt_int, le_int, gt_int, ge_int, eq_int, eq_str, ne_int, ne_str, neg_int, abs_int, int_int, int_bool, tup_list, lst_tup, lst_list, len_str, len_list, len_tup, seq_list, seq_tup, seq_str, rng1_int, rng2_int, sl_list, sl_tup, sl_str, rev_list, rev_tup, upper_str, List.set_cons_zero, List.set_cons_succ, setAll, List.length_cons, List.length_nil, Bool.false_eq_true, if_true, if_false, ite_self, eq_self, Bool.not_true, Bool.not_false, line, Nat.reduceLeDiff, Nat.reduceLT, Nat.reduceAdd, Int.reduceLT, Int.reduceLE, true_and, and_true, ixt0, ixt1, ixt2, ixt3, ixl0, ixl1, ixl2, ixl3, List.map, max2_int]
    have mx0 : 0 < (if (m : Int) > 1 then (m : Int) else 1) := by split <;> omega
    have mx1 : (if (m : Int) > 1 then (m : Int) else 1) = 1 ∨ (if (m : Int) > 1 then (m : Int) else 1) = m := by split <;> simp
    revert mx0 mx1
    generalize (if (m : Int) > 1 then (m : Int) else 1) = mx
    intro mx0 mx1
    have ra := mod_rng a mx0
    have rb := mod_rng b mx0
    revert ra rb
    generalize a % mx = a'
    generalize b % mx = b'
    intro ra rb
    refine ⟨mx0, mx0, ix_all (by omega) (by simp [l6]) fun dh hdh => ?_⟩
    obtain ⟨hv, hhv, rfl⟩ := map_int hdh
    have hd0 := x0 d (by simp)
    have fin : ∀ w : Int, 1 ≤ w → w ≤ 1000 → if (!decide (a' = b')) = true then
              OP (subD (PyData.int 0) (.int w)) fun a_2 =>
                OP (min2G [PyData.int a', PyData.int b']) fun b_2 =>
                  OP (ixD (PyData.list (List.map PyData.str us)) b_2) fun a_3 =>
                    OP (ixD (PyData.list (List.map PyData.str us)) (PyData.int (if b' > a' then b' else a'))) fun a_4 =>
                      OP (ixD (PyData.list [PyData.int 0, PyData.int 2, PyData.int 10]) (PyData.int (d % 3))) fun a_5 =>
                        (List.map rsD told).length < 16777216 ∧
                          ∃ (told_1 : List RsT) (k1 k2 k3 k4 k5 : Option D),
                            ([some (PyData.list (List.map PyData.int ns)), some (PyData.int at'), some (PyData.int m), some (PyData.int R), some (PyData.int B), some (PyData.list (List.map PyData.int hs)), some (PyData.list (List.map PyData.str us)),
                                  some (PyData.list (List.map rsD told ++ [PyData.tuple [a_2, a_3, a_4, a_5]])), some (PyData.int (0 + (j : Int))), some (PyData.list [PyData.int a, PyData.int b, PyData.int c, PyData.int d]), some (PyData.int a'), some (PyData.int b'), some (.int w), none, none] : Ev.Env) =
                                [some (PyData.list (List.map PyData.int ns)), some (PyData.int at'), some (PyData.int m), some (PyData.int R), some (PyData.int B), some (PyData.list (List.map PyData.int hs)), some (PyData.list (List.map PyData.str us)), some (PyData.list (List.map rsD told_1)), k1, k2, k3, k4, k5, none, none] ∧
                              told_1.length ≤ j + 1 ∧ ∀ t ∈ told_1, RsOk us (ngT t)
            else
              ∃ (told_1 : List RsT) (k1 k2 k3 k4 k5 : Option D),
                ([some (PyData.list (List.map PyData.int ns)), some (PyData.int at'), some (PyData.int m), some (PyData.int R), some (PyData.int B), some (PyData.list (List.map PyData.int hs)), some (PyData.list (List.map PyData.str us)), some (PyData.list (List.map rsD told)),
                      some (PyData.int (0 + (j : Int))), some (PyData.list [PyData.int a, PyData.int b, PyData.int c, PyData.int d]), some (PyData.int a'), some (PyData.int b'), some (.int w), none, none] : Ev.Env) =
                    [some (PyData.list (List.map PyData.int ns)), some (PyData.int at'), some (PyData.int m), some (PyData.int R), some (PyData.int B), some (PyData.list (List.map PyData.int hs)), some (PyData.list (List.map PyData.str us)), some (PyData.list (List.map rsD told_1)), k1, k2, k3, k4, k5, none, none] ∧
                  told_1.length ≤ j + 1 ∧ ∀ t ∈ told_1, RsOk us (ngT t) := fun w w1 w2 => by
      by_cases hab : a' = b'
      · simp only [hab, decide_true, Bool.not_true, Bool.false_eq_true, if_false]
        exact ⟨told, _, _, _, _, _, rfl, by omega, q2⟩
      · simp only [hab, decide_false, Bool.not_false, if_true, min2_int, sub_int]
        have am : a' < us.length ∧ b' < us.length := by omega
        refine ix_names (by split <;> omega) (by split <;> omega) fun hx => ix_names (by split <;> omega) (by split <;> omega) fun hy => ?_
        have ends := two_ends adj ra.1 am.1 rb.1 am.2 hab hx hy
        have tl : (List.map rsD told).length < 16777216 := by rw [List.length_map]; omega
        have put : ∀ k : Int, 0 ≤ k → k ≤ 10 → ∃ (told_1 : List RsT) (k1 k2 k3 k4 k5 : Option D),
                            ([some (PyData.list (List.map PyData.int ns)), some (PyData.int at'), some (PyData.int m), some (PyData.int R), some (PyData.int B), some (PyData.list (List.map PyData.int hs)), some (PyData.list (List.map PyData.str us)),
                                  some (PyData.list (List.map rsD told ++ [PyData.tuple [.int (0 - w), .str us[(if b' < a' then b' else a').toNat], .str us[(if b' > a' then b' else a').toNat], .int k]])), some (PyData.int (0 + (j : Int))), some (PyData.list [PyData.int a, PyData.int b, PyData.int c, PyData.int d]), some (PyData.int a'), some (PyData.int b'), some (.int w), none, none] : Ev.Env) =
                                [some (PyData.list (List.map PyData.int ns)), some (PyData.int at'), some (PyData.int m), some (PyData.int R), some (PyData.int B), some (PyData.list (List.map PyData.int hs)), some (PyData.list (List.map PyData.str us)), some (PyData.list (List.map rsD told_1)), k1, k2, k3, k4, k5, none, none] ∧
                              told_1.length ≤ j + 1 ∧ ∀ t ∈ told_1, RsOk us (ngT t) := fun k k0 k1 =>
          ⟨told ++ [(0 - w, us[(if b' < a' then b' else a').toNat], us[(if b' > a' then b' else a').toNat], k)], _, _, _, _, _, by rw [List.map_append]; rfl, by rw [List.length_append, List.length_singleton]; omega, fun t ht => by
            rcases List.mem_append.mp ht with ht | ht
            · exact q2 t ht
            · rw [List.mem_singleton.mp ht]
              exact ⟨by show 1 ≤ 0 - (0 - w); omega, by show 0 - (0 - w) ≤ 1000; omega, ends, k0, k1⟩⟩
        exact pick3 (mod_rng d (by omega)).1 (mod_rng d (by omega)).2 ⟨tl, put 0 (by omega) (by omega)⟩ ⟨tl, put 2 (by omega) (by omega)⟩ ⟨tl, put 10 (by omega) (by omega)⟩
    have c0 := x0 c (by simp)
    simp only [mod_int]
    refine ⟨by decide, ?_⟩
    exact pick3 (mod_rng hv (by omega)).1 (mod_rng hv (by omega)).2 (fin (1 + c % 3) (by omega) (by omega)) (fin (1 + c % 9) (by omega) (by omega)) (fin (1 + c % 1000) (by omega) (by omega))
  · subst e1
    exact q told _ _ _ _ _ (by rw [range_len] at q1; omega) q2
theorem shut_ok (n : Nat) (ns : List Int) (hn : ns.length ≤ 63) (at' m R B : Nat) (ha : at' ≤ 100) (hm : m ≤ 15) (hB : B ≤ 50) (us : List Str) (lu : us.length = m) (adj : adjB us = true) (h5 v7 v13 : Option D) (o8 o9 o10 o11 o12 : Option D) (P N A : Ev.Env → Prop) (Q : D → Prop)
    (q : ∀ (bs : List BrT) (k1 k2 k3 k4 : Option D), bs.length ≤ B → (∀ t ∈ bs, BrOk us t) → WF (bd23s7 (evF T G (n + 1)) [some (.list (ns.map .int)), some (.int (at' : Nat)), some (.int (m : Nat)), some (.int (R : Nat)), some (.int (B : Nat)), h5, some (.list (us.map .str)), v7, k1, k2, k3, k4, o12, v13, some (.list (bs.map brD))]) P N A Q) :
    WF (bd23s6 (evF T G (n + 1)) [some (.list (ns.map .int)), some (.int (at' : Nat)), some (.int (m : Nat)), some (.int (R : Nat)), some (.int (B : Nat)), h5, some (.list (us.map .str)), v7, o8, o9, o10, o11, o12, v13, some (.list [])]) P N A Q := by
  simp only [bd23s6, wf_seq]
  refine wf_for (fun ds j ρ => ∃ (bs : List BrT) (k1 k2 k3 k4 : Option D), ρ = [some (.list (ns.map .int)), some (.int (at' : Nat)), some (.int (m : Nat)), some (.int (R : Nat)), some (.int (B : Nat)), h5, some (.list (us.map .str)), v7, k1, k2, k3, k4, o12, v13, some (.list (bs.map brD))] ∧ bs.length ≤ j ∧ ∀ t ∈ bs, BrOk us t) ?_
  simp only [wp_ok, op_some, op_none, bp_bool, ip_int, lp_list, tp_tup, slot_0, slot_s, WP_cB, wp_slot, wp_lit, wp_c1, wp_c2, wp_nil, wp_cons, wp_cN, wp_and, wp_or, wp_not, wp_if, wp_tup, wp_lst, wp_chain, wp_isi, wp_part0, wp_part, wp_sl, wp_call, wp_callB, wp_get, wp_idx, dc_dict, wp_seq, wp_src, wf_next, wf_brk, wf_cnt, wf_retN, wf_seq, wf_ret, wf_drop, wf_asg, wf_asgT, wf_par, wf_if, wf_app, wf_setI, tg_name, tg_tup, add_int, add_str, add_list, add_tup, sub_int, mul_int, mod_int, fdiv_int, pow_int, lt_int, le_int, gt_int, ge_int, eq_int, eq_str, ne_int, ne_str, neg_int, abs_int, int_int, int_bool, tup_list, lst_tup, lst_list, len_str, len_list, len_tup, seq_list, seq_tup, seq_str, rng1_int, rng2_int, sl_list, sl_tup, sl_str, rev_list, rev_tup, upper_str, List.set_cons_zero, List.set_cons_succ, setAll, List.length_cons, List.length_nil, Bool.false_eq_true, if_true, if_false, ite_self, eq_self, Bool.not_true, Bool.not_false, line, Nat.reduceLeDiff, Nat.reduceLT, Nat.reduceAdd, Int.reduceLT, Int.reduceLE, true_and, and_true, ixt0, ixt1, ixt2, ixt3, ixl0, ixl1, ixl2, ixl3]
  refine ⟨in62_of' (by omega) (by omega), ⟨[], _, _, _, _, rfl, by simp, by simp⟩, fun j d1 ρ hj ⟨bs, k1, k2, k3, k4, e1, q1, q2⟩ => ?_, fun ρ ⟨bs, k1, k2, k3, k4, e1, q1, q2⟩ => ?_⟩
  · obtain ⟨hj1, rfl⟩ := range_get hj
    subst e1
    simp only [wp_ok, op_some, op_none, bp_bool, ip_int, lp_list, tp_tup, slot_0, slot_s, WP_cB, wp_slot, wp_lit, wp_c1, wp_c2, wp_nil, wp_cons, wp_cN, wp_and, wp_or, wp_not, wp_if, wp_tup, wp_lst, wp_chain, wp_isi, wp_part0, wp_part, wp_sl, wp_call, wp_callB, wp_get, wp_idx, dc_dict, wp_seq, wp_src, wf_next, wf_brk, wf_cnt, wf_retN, wf_seq, wf_ret, wf_drop, wf_asg, wf_asgT, wf_par, wf_if, wf_app, wf_setI, tg_name, tg_tup, add_int, add_str, add_list, add_tup, sub_int, mul_int, mod_int, fdiv_int, pow_int, lt_int, le_int, gt_int, ge_int, eq_int, eq_str, ne_int, ne_str, neg_int, abs_int, int_int, int_bool, tup_list, lst_tup, lst_list, len_str, len_list, len_tup, seq_list, seq_tup, seq_str, rng1_int, rng2_int, sl_list, sl_tup, sl_str, rev_list, rev_tup, upper_str, List.set_cons_zero, List.set_cons_succ, setAll, List.length_cons, List.length_nil, Bool.false_eq_true, if_true, if_false, ite_self, eq_self, Bool.not_true, Bool.not_false, line, Nat.reduceLeDiff, Nat.reduceLT, Nat.reduceAdd, Int.reduceLT, Int.reduceLE, true_and, and_true, ixt0, ixt1, ixt2, ixt3, ixl0, ixl1, ixl2, ixl3]
    have ec : (at' : Int) + 1 + (0 + (j : Int)) = ((at' + 1 + j : Nat) : Int) := by omega
    rw [ec]
    refine (cell_ok n ns (at' + 1 + j) (by omega) hn).imp fun v ⟨i2, e2⟩ => ?_
    subst e2
    refine (numbers_ok n i2 8 (by omega)).imp fun v ⟨xs, e2, l8, x0⟩ => ?_
    subst e2
    obtain ⟨p1, p2, p3, p4, p5, a, b, d, rfl⟩ : ∃ p1 p2 p3 p4 p5 a b d, xs = [p1, p2, p3, p4, p5, a, b, d] := by
      match xs, l8 with
      | [p1, p2, p3, p4, p5, a, b, d], _ => exact ⟨p1, p2, p3, p4, p5, a, b, d, rfl⟩
    have i5 : ∀ Q : D → Prop, Q (.int a) → OP (ixD (.list ([p1, p2, p3, p4, p5, a, b, d].map PyData.int)) (.int 5)) Q := fun Q q => ix_list ⟨5, rfl, _, rfl, q⟩
    have i6 : ∀ Q : D → Prop, Q (.int b) → OP (ixD (.list ([p1, p2, p3, p4, p5, a, b, d].map PyData.int)) (.int 6)) Q := fun Q q => ix_list ⟨6, rfl, _, rfl, q⟩
    have i7 : ∀ Q : D → Prop, Q (.int d) → OP (ixD (.list ([p1, p2, p3, p4, p5, a, b, d].map PyData.int)) (.int 7)) Q := fun Q q => ix_list ⟨7, rfl, _, rfl, q⟩
    revert i5 i6 i7
    generalize [p1, p2, p3, p4, p5, a, b, d].map PyData.int = xl
    intro i5 i6 i7
    refine i5 _ ?_
    simp only [max2_int, mod_int]
    have mx0 : 0 < (if (m : Int) > 1 then (m : Int) else 1) := by split <;> omega
    have mx1 : (if (m : Int) > 1 then (m : Int) else 1) = 1 ∨ (if (m : Int) > 1 then (m : Int) else 1) = m := by split <;> simp
    revert mx0 mx1
    generalize (if (m : Int) > 1 then (m : Int) else 1) = mx
    intro mx0 mx1
    refine ⟨mx0, i6 _ ?_⟩
    simp only [mod_int]
    refine ⟨mx0, ?_⟩
    have ra := mod_rng a mx0
    have rb := mod_rng b mx0
    revert ra rb
    generalize a % mx = a'
    generalize b % mx = b'
    intro ra rb
    by_cases hab : a' = b'
    · simp only [wp_ok, op_some, op_none, bp_bool, ip_int, lp_list, tp_tup, slot_0, slot_s, WP_cB, wp_slot, wp_lit, wp_c1, wp_c2, wp_nil, wp_cons, wp_cN, wp_and, wp_or, wp_not, wp_if, wp_tup, wp_lst, wp_chain, wp_isi, wp_part0, wp_part, wp_sl, wp_call, wp_callB, wp_get, wp_idx, dc_dict, wp_seq, wp_src, wf_next, wf_brk, wf_cnt, wf_retN, wf_seq, wf_ret, wf_drop, wf_asg, wf_asgT, wf_par, wf_if, wf_app, wf_setI, tg_name, tg_tup, add_int, add_str, add_list, add_tup, sub_int, mul_int, mod_int, fdiv_int, pow_int, lt_int, le_int, gt_int, ge_int, eq_int, eq_str, ne_int, ne_str, neg_int, abs_int, int_int, int_bool, tup_list, lst_tup, lst_list, len_str, len_list, len_tup, seq_list, seq_tup, seq_str, rng1_int, rng2_int, sl_list, sl_tup, sl_str, rev_list, rev_tup, upper_str, List.set_cons_zero, List.set_cons_succ, setAll, List.length_cons, List.length_nil, Bool.false_eq_true, if_true, if_false, ite_self, eq_self, Bool.not_true, Bool.not_false, line, Nat.reduceLeDiff, Nat.reduceLT, Nat.reduceAdd, Int.reduceLT, Int.reduceLE, true_and, and_true, ixt0, ixt1, ixt2, ixt3, ixl0, ixl1, ixl2, ixl3, hab, decide_true]
      exact ⟨bs, _, _, _, _, rfl, by omega, q2⟩
    · simp only [wp_ok, op_some, op_none, bp_bool, ip_int, lp_list, tp_tup, slot_0, slot_s, WP_cB, wp_slot, wp_lit, wp_c1, wp_c2, wp_nil, wp_cons, wp_cN, wp_and, wp_or, wp_not, wp_if, wp_tup, wp_lst, wp_chain, wp_isi, wp_part0, wp_part, wp_sl, wp_call, wp_callB, wp_get, wp_idx, dc_dict, wp_seq, wp_src, wf_next, wf_brk, wf_cnt, wf_retN, wf_seq, wf_ret, wf_drop, wf_asg, wf_asgT, wf_par, wf_if, wf_app, wf_setI, tg_name, tg_tup, add_int, add_str, add_list, add_tup, sub_int, mul_int, mod_int, fdiv_int, pow_int, lt_int, le_int, gt_int, ge_int, eq_int, eq_str, ne_int, ne_str, neg_int, abs_int, int_int, int_bool, tup_list, lst_tup, lst_list, len_str, len_list, len_tup, seq_list, seq_tup, seq_str, rng1_int, rng2_int, sl_list, sl_tup, sl_str, rev_list, rev_tup, upper_str, List.set_cons_zero, List.set_cons_succ, setAll, List.length_cons, List.length_nil, Bool.false_eq_true, if_true, if_false, ite_self, eq_self, Bool.not_true, Bool.not_false, line, Nat.reduceLeDiff, Nat.reduceLT, Nat.reduceAdd, Int.reduceLT, Int.reduceLE, true_and, and_true, ixt0, ixt1, ixt2, ixt3, ixl0, ixl1, ixl2, ixl3, hab, decide_false, min2_int, max2_int]
      have am : a' < us.length ∧ b' < us.length := by omega
      refine ix_names (by split <;> omega) (by split <;> omega) fun hx => ix_names (by split <;> omega) (by split <;> omega) fun hy => ?_
      have ends := two_ends adj ra.1 am.1 rb.1 am.2 hab hx hy
      refine i7 _ ?_
      simp only [mod_int]
      have put : ∀ k : Int, 0 ≤ k → k ≤ 10 → (List.map brD bs).length < 16777216 ∧ ∃ (bs_1 : List BrT) (k1 k2 k3 k4 : Option D),
          ([some (.list (ns.map .int)), some (.int (at' : Nat)), some (.int (m : Nat)), some (.int (R : Nat)), some (.int (B : Nat)), h5, some (.list (us.map .str)), v7, some (PyData.int (0 + (j : Int))), some (PyData.list xl), some (PyData.int a'), some (PyData.int b'), o12, v13, some (.list (bs.map brD ++ [PyData.tuple [.str us[(if b' < a' then b' else a').toNat], .str us[(if b' > a' then b' else a').toNat], .int k]]))] : Ev.Env) =
            [some (.list (ns.map .int)), some (.int (at' : Nat)), some (.int (m : Nat)), some (.int (R : Nat)), some (.int (B : Nat)), h5, some (.list (us.map .str)), v7, k1, k2, k3, k4, o12, v13, some (.list (bs_1.map brD))] ∧ bs_1.length ≤ j + 1 ∧ ∀ t ∈ bs_1, BrOk us t := fun k k0 k1 =>
        ⟨by rw [List.length_map]; omega, bs ++ [(us[(if b' < a' then b' else a').toNat], us[(if b' > a' then b' else a').toNat], k)], _, _, _, _, by rw [List.map_append]; rfl, by rw [List.length_append, List.length_singleton]; omega, fun t ht => by
          rcases List.mem_append.mp ht with ht | ht
          · exact q2 t ht
          · rw [List.mem_singleton.mp ht]
            exact ⟨ends, k0, k1⟩⟩
      refine ⟨by decide, pick2 (mod_rng d (by omega)).1 (mod_rng d (by omega)).2 ?_ ?_⟩
      · exact put 2 (by omega) (by omega)
      · exact put 10 (by omega) (by omega)
  · subst e1
    exact q bs _ _ _ _ (by rw [range_len] at q1; omega) q2
theorem ground_ok (n : Nat) (ns : List Int) (hn : ns.length ≤ 63) (at' m R B : Nat) (ha : at' ≤ 100) (hm : m ≤ 15) (hR : R ≤ 50) (hB : B ≤ 50) :
    WP (evF T G (n + 2) 23 [.list (ns.map .int), .int (at' : Nat), .int (m : Nat), .int (R : Nat), .int (B : Nat)]) fun v => ∃ us rs bs, v = groundD us rs bs ∧ GroundP m R B us rs bs := by
  rw [e23]
  refine wp_run rfl ?_
  simp only [bd23, startE, List.map, List.replicate, List.append, List.cons_append, List.nil_append, wp_ok, op_some, op_none, bp_bool, ip_int, lp_list, tp_tup, slot_0, slot_s, WP_cB, wp_slot, wp_lit, wp_c1, wp_c2, wp_nil, wp_cons, wp_cN, wp_and, wp_or, wp_not, wp_if, wp_tup, wp_lst, wp_chain, wp_isi, wp_part0, wp_part, wp_sl, wp_call, wp_callB, wp_get, wp_idx, dc_dict, wp_seq, wp_src, wf_next, wf_brk, wf_cnt, wf_retN, wf_seq, wf_ret, wf_drop, wf_asg, wf_asgT, wf_par, wf_if, wf_app, wf_setI, tg_name, tg_tup, add_int, add_str, add_list, add_tup, sub_int, mul_int, mod_int, fdiv_int, pow_int, lt_int, le_int, gt_int, ge_int, eq_int, eq_str, ne_int, ne_str, neg_int, abs_int, int_int, int_bool, tup_list, lst_tup, lst_list, len_str, len_list, len_tup, seq_list, seq_tup, seq_str, rng1_int, rng2_int, sl_list, sl_tup, sl_str, rev_list, rev_tup, upper_str, List.set_cons_zero, List.set_cons_succ, setAll, List.length_cons, List.length_nil, Bool.false_eq_true, if_true, if_false, ite_self, eq_self, Bool.not_true, Bool.not_false, line, Nat.reduceLeDiff, Nat.reduceLT, Nat.reduceAdd, Int.reduceLT, Int.reduceLE, true_and, and_true, ixt0, ixt1, ixt2, ixt3, ixl0, ixl1, ixl2, ixl3]
  refine (cell_ok n ns at' (by omega) hn).imp fun v ⟨i, e⟩ => ?_
  subst e
  refine (numbers_ok n i 6 (by omega)).imp fun v ⟨hs, e, l6, h0⟩ => ?_
  subst e
  simp only [bd23s1, bd23s2, wp_ok, op_some, op_none, bp_bool, ip_int, lp_list, tp_tup, slot_0, slot_s, WP_cB, wp_slot, wp_lit, wp_c1, wp_c2, wp_nil, wp_cons, wp_cN, wp_and, wp_or, wp_not, wp_if, wp_tup, wp_lst, wp_chain, wp_isi, wp_part0, wp_part, wp_sl, wp_call, wp_callB, wp_get, wp_idx, dc_dict, wp_seq, wp_src, wf_next, wf_brk, wf_cnt, wf_retN, wf_seq, wf_ret, wf_drop, wf_asg, wf_asgT, wf_par, wf_if, wf_app, wf_setI, tg_name, tg_tup, add_int, add_str, add_list, add_tup, sub_int, mul_int, mod_int, fdiv_int, pow_int, lt_int, le_int, gt_int, ge_int, eq_int, eq_str, ne_int, ne_str, neg_int, abs_int, int_int, int_bool, tup_list, lst_tup, lst_list, len_str, len_list, len_tup, seq_list, seq_tup, seq_str, rng1_int, rng2_int, sl_list, sl_tup, sl_str, rev_list, rev_tup, upper_str, List.set_cons_zero, List.set_cons_succ, setAll, List.length_cons, List.length_nil, Bool.false_eq_true, if_true, if_false, ite_self, eq_self, Bool.not_true, Bool.not_false, line, Nat.reduceLeDiff, Nat.reduceLT, Nat.reduceAdd, Int.reduceLT, Int.reduceLE, true_and, and_true, ixt0, ixt1, ixt2, ixt3, ixl0, ixl1, ixl2, ixl3]
  refine (names_ok n hs l6 h0 m hm).imp fun v ⟨f, e, hf, hi⟩ => ?_
  subst e
  have zn : ((List.range m).map fun i => PyData.str (f i)) = ((List.range m).map f).map .str := by rw [List.map_map]; rfl
  have nd : ((List.range m).map f).Nodup := List.pairwise_map.mpr (List.Pairwise.imp_of_mem (fun {a b} ha hb hne e => hne (hi a (List.mem_range.mp ha) b (List.mem_range.mp hb) e)) List.nodup_range)
  obtain ⟨us, se, pm, adj⟩ := sort_names (zs := (List.range m).map f) (fun z hz => by
    obtain ⟨j, hj, rfl⟩ := List.mem_map.mp hz
    exact hf j (List.mem_range.mp hj)) nd
  have lu : us.length = m := by rw [pm.length_eq, List.length_map, List.length_range]
  have nu : ∀ z ∈ us, nameB z = true := fun z hz => by
    obtain ⟨j, hj, rfl⟩ := List.mem_map.mp (pm.mem_iff.mp hz)
    exact hf j (List.mem_range.mp hj)
  rw [zn, se]
  simp only [wp_ok, op_some, op_none, bp_bool, ip_int, lp_list, tp_tup, slot_0, slot_s, WP_cB, wp_slot, wp_lit, wp_c1, wp_c2, wp_nil, wp_cons, wp_cN, wp_and, wp_or, wp_not, wp_if, wp_tup, wp_lst, wp_chain, wp_isi, wp_part0, wp_part, wp_sl, wp_call, wp_callB, wp_get, wp_idx, dc_dict, wp_seq, wp_src, wf_next, wf_brk, wf_cnt, wf_retN, wf_seq, wf_ret, wf_drop, wf_asg, wf_asgT, wf_par, wf_if, wf_app, wf_setI, tg_name, tg_tup, add_int, add_str, add_list, add_tup, sub_int, mul_int, mod_int, fdiv_int, pow_int, lt_int, le_int, gt_int, ge_int, eq_int, eq_str, ne_int, ne_str, neg_int, abs_int, int_int, int_bool, tup_list, lst_tup, lst_list, len_str, len_list, len_tup, seq_list, seq_tup, seq_str, rng1_int, rng2_int, sl_list, sl_tup, sl_str, rev_list, rev_tup, upper_str, List.set_cons_zero, List.set_cons_succ, setAll, List.length_cons, List.length_nil, Bool.false_eq_true, if_true, if_false, ite_self, eq_self, Bool.not_true, Bool.not_false, line, Nat.reduceLeDiff, Nat.reduceLT, Nat.reduceAdd, Int.reduceLT, Int.reduceLE, true_and, and_true, ixt0, ixt1, ixt2, ixt3, ixl0, ixl1, ixl2, ixl3]
  refine told_ok n ns hn at' m R B ha hm hR hs l6 h0 us lu adj _ _ _ _ fun told k1 k2 k3 k4 k5 tl tok => ?_
  have rows : Rows 1 (told.map rsD) := rows_of (.inl fun d hd => by
    obtain ⟨t, ht, rfl⟩ := List.mem_map.mp hd
    have ok := tok t ht
    exact ⟨_, _, _, _, rfl, nu _ ok.2.2.1.1, nu _ ok.2.2.1.2.1⟩) (by rw [List.length_map]; omega)
  obtain ⟨S, eS, mS, lS, aS⟩ := set_sorted rows
  obtain ⟨ts, rfl, ht⟩ := mem_rows mS
  rw [List.length_map, List.length_map] at lS
  simp only [bd23s4, bd23s5, wp_ok, op_some, op_none, bp_bool, ip_int, lp_list, tp_tup, slot_0, slot_s, WP_cB, wp_slot, wp_lit, wp_c1, wp_c2, wp_nil, wp_cons, wp_cN, wp_and, wp_or, wp_not, wp_if, wp_tup, wp_lst, wp_chain, wp_isi, wp_part0, wp_part, wp_sl, wp_call, wp_callB, wp_get, wp_idx, dc_dict, wp_seq, wp_src, wf_next, wf_brk, wf_cnt, wf_retN, wf_seq, wf_ret, wf_drop, wf_asg, wf_asgT, wf_par, wf_if, wf_app, wf_setI, tg_name, tg_tup, add_int, add_str, add_list, add_tup, sub_int, mul_int, mod_int, fdiv_int, pow_int, lt_int, le_int, gt_int, ge_int, eq_int, eq_str, ne_int, ne_str, neg_int, abs_int, int_int, int_bool, tup_list, lst_tup, lst_list, len_str, len_list, len_tup, seq_list, seq_tup, seq_str, rng1_int, rng2_int, sl_list, sl_tup, sl_str, rev_list, rev_tup, upper_str, List.set_cons_zero, List.set_cons_succ, setAll, List.length_cons, List.length_nil, Bool.false_eq_true, if_true, if_false, ite_self, eq_self, Bool.not_true, Bool.not_false, line, Nat.reduceLeDiff, Nat.reduceLT, Nat.reduceAdd, Int.reduceLT, Int.reduceLE, true_and, and_true, ixt0, ixt1, ixt2, ixt3, ixl0, ixl1, ixl2, ixl3]
  refine wp_compT (fun d y => y = ngD d) ?_
  simp only [wp_ok, op_some, op_none, bp_bool, ip_int, lp_list, tp_tup, slot_0, slot_s, WP_cB, wp_slot, wp_lit, wp_c1, wp_c2, wp_nil, wp_cons, wp_cN, wp_and, wp_or, wp_not, wp_if, wp_tup, wp_lst, wp_chain, wp_isi, wp_part0, wp_part, wp_sl, wp_call, wp_callB, wp_get, wp_idx, dc_dict, wp_seq, wp_src, wf_next, wf_brk, wf_cnt, wf_retN, wf_seq, wf_ret, wf_drop, wf_asg, wf_asgT, wf_par, wf_if, wf_app, wf_setI, tg_name, tg_tup, add_int, add_str, add_list, add_tup, sub_int, mul_int, mod_int, fdiv_int, pow_int, lt_int, le_int, gt_int, ge_int, eq_int, eq_str, ne_int, ne_str, neg_int, abs_int, int_int, int_bool, tup_list, lst_tup, lst_list, len_str, len_list, len_tup, seq_list, seq_tup, seq_str, rng1_int, rng2_int, sl_list, sl_tup, sl_str, rev_list, rev_tup, upper_str, List.set_cons_zero, List.set_cons_succ, setAll, List.length_cons, List.length_nil, Bool.false_eq_true, if_true, if_false, ite_self, eq_self, Bool.not_true, Bool.not_false, line, Nat.reduceLeDiff, Nat.reduceLT, Nat.reduceAdd, Int.reduceLT, Int.reduceLE, true_and, and_true, ixt0, ixt1, ixt2, ixt3, ixl0, ixl1, ixl2, ixl3]
  rw [eS]
  simp only [wp_ok, op_some, op_none, bp_bool, ip_int, lp_list, tp_tup, slot_0, slot_s, WP_cB, wp_slot, wp_lit, wp_c1, wp_c2, wp_nil, wp_cons, wp_cN, wp_and, wp_or, wp_not, wp_if, wp_tup, wp_lst, wp_chain, wp_isi, wp_part0, wp_part, wp_sl, wp_call, wp_callB, wp_get, wp_idx, dc_dict, wp_seq, wp_src, wf_next, wf_brk, wf_cnt, wf_retN, wf_seq, wf_ret, wf_drop, wf_asg, wf_asgT, wf_par, wf_if, wf_app, wf_setI, tg_name, tg_tup, add_int, add_str, add_list, add_tup, sub_int, mul_int, mod_int, fdiv_int, pow_int, lt_int, le_int, gt_int, ge_int, eq_int, eq_str, ne_int, ne_str, neg_int, abs_int, int_int, int_bool, tup_list, lst_tup, lst_list, len_str, len_list, len_tup, seq_list, seq_tup, seq_str, rng1_int, rng2_int, sl_list, sl_tup, sl_str, rev_list, rev_tup, upper_str, List.set_cons_zero, List.set_cons_succ, setAll, List.length_cons, List.length_nil, Bool.false_eq_true, if_true, if_false, ite_self, eq_self, Bool.not_true, Bool.not_false, line, Nat.reduceLeDiff, Nat.reduceLT, Nat.reduceAdd, Int.reduceLT, Int.reduceLE, true_and, and_true, ixt0, ixt1, ixt2, ixt3, ixl0, ixl1, ixl2, ixl3]
  refine ⟨by rw [List.length_map]; omega, fun d hd => ?_, fun ys pys => ?_⟩
  · obtain ⟨t, _, rfl⟩ := List.mem_map.mp hd
    refine ⟨_, rfl, rfl, ?_⟩
    simp only [wipeE, wp_ok, op_some, op_none, bp_bool, ip_int, lp_list, tp_tup, slot_0, slot_s, WP_cB, wp_slot, wp_lit, wp_c1, wp_c2, wp_nil, wp_cons, wp_cN, wp_and, wp_or, wp_not, wp_if, wp_tup, wp_lst, wp_chain, wp_isi, wp_part0, wp_part, wp_sl, wp_call, wp_callB, wp_get, wp_idx, dc_dict, wp_seq, wp_src, wf_next, wf_brk, wf_cnt, wf_retN, wf_seq, wf_ret, wf_drop, wf_asg, wf_asgT, wf_par, wf_if, wf_app, wf_setI, tg_name, tg_tup, add_int, add_str, add_list, add_tup, sub_int, mul_int, mod_int, fdiv_int, pow_int, lt_int, le_int, gt_int, ge_int, eq_int, eq_str, ne_int, ne_str, neg_int, abs_int, int_int, int_bool, tup_list, lst_tup, lst_list, len_str, len_list, len_tup, seq_list, seq_tup, seq_str, rng1_int, rng2_int, sl_list, sl_tup, sl_str, rev_list, rev_tup, upper_str, List.set_cons_zero, List.set_cons_succ, setAll, List.length_cons, List.length_nil, Bool.false_eq_true, if_true, if_false, ite_self, eq_self, Bool.not_true, Bool.not_false, line, Nat.reduceLeDiff, Nat.reduceLT, Nat.reduceAdd, Int.reduceLT, Int.reduceLE, true_and, and_true, ixt0, ixt1, ixt2, ixt3, ixl0, ixl1, ixl2, ixl3]
    rfl
  have := paired_map pys
  subst this
  refine shut_ok n ns hn at' m R B ha hm hB us lu adj _ _ _ _ _ _ _ _ _ _ _ _ fun bs j1 j2 j3 j4 bl bok => ?_
  have rowsB : Rows 1 (bs.map brD) := rows_of (.inr fun d hd => by
    obtain ⟨t, ht, rfl⟩ := List.mem_map.mp hd
    have ok := bok t ht
    exact ⟨_, _, _, rfl, nu _ ok.1.1, nu _ ok.1.2.1⟩) (by rw [List.length_map]; omega)
  obtain ⟨S2, eS2, mS2, lS2, aS2⟩ := set_sorted rowsB
  obtain ⟨us2, rfl, hu⟩ := mem_bars mS2
  rw [List.length_map, List.length_map] at lS2
  simp only [bd23s7, wp_ok, op_some, op_none, bp_bool, ip_int, lp_list, tp_tup, slot_0, slot_s, WP_cB, wp_slot, wp_lit, wp_c1, wp_c2, wp_nil, wp_cons, wp_cN, wp_and, wp_or, wp_not, wp_if, wp_tup, wp_lst, wp_chain, wp_isi, wp_part0, wp_part, wp_sl, wp_call, wp_callB, wp_get, wp_idx, dc_dict, wp_seq, wp_src, wf_next, wf_brk, wf_cnt, wf_retN, wf_seq, wf_ret, wf_drop, wf_asg, wf_asgT, wf_par, wf_if, wf_app, wf_setI, tg_name, tg_tup, add_int, add_str, add_list, add_tup, sub_int, mul_int, mod_int, fdiv_int, pow_int, lt_int, le_int, gt_int, ge_int, eq_int, eq_str, ne_int, ne_str, neg_int, abs_int, int_int, int_bool, tup_list, lst_tup, lst_list, len_str, len_list, len_tup, seq_list, seq_tup, seq_str, rng1_int, rng2_int, sl_list, sl_tup, sl_str, rev_list, rev_tup, upper_str, List.set_cons_zero, List.set_cons_succ, setAll, List.length_cons, List.length_nil, Bool.false_eq_true, if_true, if_false, ite_self, eq_self, Bool.not_true, Bool.not_false, line, Nat.reduceLeDiff, Nat.reduceLT, Nat.reduceAdd, Int.reduceLT, Int.reduceLE, true_and, and_true, ixt0, ixt1, ixt2, ixt3, ixl0, ixl1, ixl2, ixl3]
  rw [eS2]
  simp only [wp_ok, op_some, op_none, bp_bool, ip_int, lp_list, tp_tup, slot_0, slot_s, WP_cB, wp_slot, wp_lit, wp_c1, wp_c2, wp_nil, wp_cons, wp_cN, wp_and, wp_or, wp_not, wp_if, wp_tup, wp_lst, wp_chain, wp_isi, wp_part0, wp_part, wp_sl, wp_call, wp_callB, wp_get, wp_idx, dc_dict, wp_seq, wp_src, wf_next, wf_brk, wf_cnt, wf_retN, wf_seq, wf_ret, wf_drop, wf_asg, wf_asgT, wf_par, wf_if, wf_app, wf_setI, tg_name, tg_tup, add_int, add_str, add_list, add_tup, sub_int, mul_int, mod_int, fdiv_int, pow_int, lt_int, le_int, gt_int, ge_int, eq_int, eq_str, ne_int, ne_str, neg_int, abs_int, int_int, int_bool, tup_list, lst_tup, lst_list, len_str, len_list, len_tup, seq_list, seq_tup, seq_str, rng1_int, rng2_int, sl_list, sl_tup, sl_str, rev_list, rev_tup, upper_str, List.set_cons_zero, List.set_cons_succ, setAll, List.length_cons, List.length_nil, Bool.false_eq_true, if_true, if_false, ite_self, eq_self, Bool.not_true, Bool.not_false, line, Nat.reduceLeDiff, Nat.reduceLT, Nat.reduceAdd, Int.reduceLT, Int.reduceLE, true_and, and_true, ixt0, ixt1, ixt2, ixt3, ixl0, ixl1, ixl2, ixl3, neg_rows]
  refine ⟨us, ts.map ngT, us2, rfl, lu, nu, adj, by rw [List.length_map]; omega, fun r hr => ?_, by rw [neg_neg]; exact aS, by omega, fun b hb => bok b (hu b hb), aS2⟩
  obtain ⟨t, htm, rfl⟩ := List.mem_map.mp hr
  exact tok t (ht t htm)
end K51

set_option Elab.async false
set_option linter.all false
set_option maxRecDepth 100000
set_option maxHeartbeats 8000000
namespace K51
open PySem Ev
open TL (tl joinL tl_join join_eq len_tl tl_append ext_tl tl_ofString mk_tl split_join partition_app)
theorem is_name_ok (n : Nat) (z : Str) (hz : z.length ≤ line) : WP (evF T G (n + 1) 0 [.str z]) fun v => v = .bool (nameB z) := by
  rw [e0]
  refine wp_run rfl ?_
  simp only [bd0, startE, List.map, List.replicate, List.append, List.cons_append, List.nil_append, wp_ok, op_some, op_none, bp_bool, ip_int, lp_list, tp_tup, slot_0, slot_s, WP_cB, wp_slot, wp_lit, wp_c1, wp_c2, wp_nil, wp_cons, wp_cN, wp_and, wp_or, wp_not, wp_if, wp_tup, wp_lst, wp_chain, wp_isi, wp_part0, wp_part, wp_sl, wp_call, wp_callB, wp_get, wp_idx, dc_dict, wp_seq, wp_src, wf_next, wf_brk, wf_cnt, wf_retN, wf_seq, wf_ret, wf_drop, wf_asg, wf_asgT, wf_par, wf_if, wf_app, wf_setI, tg_name, tg_tup, add_int, add_str, add_list, add_tup, sub_int, mul_int, mod_int, fdiv_int, pow_int, lt_int, le_int, gt_int, ge_int, eq_int, eq_str, ne_int, ne_str, neg_int, abs_int, int_int, int_bool, tup_list, lst_tup, lst_list, len_str, len_list, len_tup, seq_list, seq_tup, seq_str, rng1_int, rng2_int, sl_list, sl_tup, sl_str, rev_list, rev_tup, upper_str, List.set_cons_zero, List.set_cons_succ, setAll, List.length_cons, List.length_nil, Bool.false_eq_true, if_true, if_false, ite_self, eq_self, Bool.not_true, Bool.not_false, line, Nat.reduceLeDiff, Nat.reduceLT, Nat.reduceAdd, Int.reduceLT, Int.reduceLE, true_and, and_true, ixt0, ixt1, ixt2, ixt3, ixl0, ixl1, ixl2, ixl3]
  simp [isiB, tyN, nameB, wp_ok, op_some, op_none, bp_bool, ip_int, lp_list, tp_tup, slot_0, slot_s, WP_cB, wp_slot, wp_lit, wp_c1, wp_c2, wp_nil, wp_cons, wp_cN, wp_and, wp_or, wp_not, wp_if, wp_tup, wp_lst, wp_chain, wp_isi, wp_part0, wp_part, wp_sl, wp_call, wp_callB, wp_get, wp_idx, dc_dict, wp_seq, wp_src, wf_next, wf_brk, wf_cnt, wf_retN, wf_seq, wf_ret, wf_drop, wf_asg, wf_asgT, wf_par, wf_if, wf_app, wf_setI, tg_name, tg_tup, add_int, add_str, add_list, add_tup, sub_int, mul_int, mod_int, fdiv_int, pow_int, lt_int, le_int, gt_int, ge_int, eq_int, eq_str, ne_int, ne_str, neg_int, abs_int, int_int, int_bool, tup_list, lst_tup, lst_list, len_str, len_list, len_tup, seq_list, seq_tup, seq_str, rng1_int, rng2_int, sl_list, sl_tup, sl_str, rev_list, rev_tup, upper_str, List.set_cons_zero, List.set_cons_succ, setAll, List.length_cons, List.length_nil, Bool.false_eq_true, if_true, if_false, ite_self, eq_self, Bool.not_true, Bool.not_false, line, Nat.reduceLeDiff, Nat.reduceLT, Nat.reduceAdd, Int.reduceLT, Int.reduceLE, true_and, and_true, ixt0, ixt1, ixt2, ixt3, ixl0, ixl1, ixl2, ixl3]
  refine ⟨hz, ?_⟩
  by_cases h1 : 1 ≤ (z.length : Int) <;> by_cases h2 : 8 < (z.length : Int) <;> simp [h1, h2]
  · intro a b; omega
  · refine comp_sign (S := smallS) (fun ρ Q => wp_lit _ Q) hz ?_
    have a1 : 1 ≤ z.length := by omega
    have a2 : z.length ≤ 8 := by omega
    simp [a1, a2]
  · intro a b; omega
  · intro a b; omega
theorem name_eq (n : Nat) (z : Str) (hz : z.length ≤ line) : evF T G (n + 1) 0 [.str z] = .ok (.bool (nameB z)) := (is_name_ok n z hz).ok
/-- data whose parts are few and small -/
inductive Wg : D → Prop
  | none : Wg .none
  | bool (b : Bool) : Wg (.bool b)
  | int {i : Int} : -1000000000 ≤ i → i ≤ 1000000000 → Wg (.int i)
  | str {z : Str} : z.length ≤ 60 → Wg (.str z)
  | tup {xs : List D} : xs.length ≤ 60 → (∀ x ∈ xs, Wg x) → Wg (.tuple xs)
  | lst {xs : List D} : xs.length ≤ 60 → (∀ x ∈ xs, Wg x) → Wg (.list xs)
  | dic0 : Wg (.dict [])
theorem is_name_g (n : Nat) (d : D) (w : Wg d) : evF T G (n + 1) 0 [d] = .ok (.bool (nmB d)) := by
  cases w with
  | str hz => exact name_eq n _ (by show _ ≤ 16777216; omega)
  | _ =>
    refine WP.ok ?_
    rw [e0]
    refine wp_run rfl ?_
    simp only [bd0, startE, List.map, List.replicate, List.append, List.cons_append, List.nil_append, wp_ok, op_some, op_none, bp_bool, ip_int, lp_list, tp_tup, slot_0, slot_s, WP_cB, wp_slot, wp_lit, wp_c1, wp_c2, wp_nil, wp_cons, wp_cN, wp_and, wp_or, wp_not, wp_if, wp_tup, wp_lst, wp_chain, wp_isi, wp_part0, wp_part, wp_sl, wp_call, wp_callB, wp_get, wp_idx, dc_dict, wp_seq, wp_src, wf_next, wf_brk, wf_cnt, wf_retN, wf_seq, wf_ret, wf_drop, wf_asg, wf_asgT, wf_par, wf_if, wf_app, wf_setI, tg_name, tg_tup, add_int, add_str, add_list, add_tup, sub_int, mul_int, mod_int, fdiv_int, pow_int, lt_int, le_int, gt_int, ge_int, eq_int, eq_str, ne_int, ne_str, neg_int, abs_int, int_int, int_bool, tup_list, lst_tup, lst_list, len_str, len_list, len_tup, seq_list, seq_tup, seq_str, rng1_int, rng2_int, sl_list, sl_tup, sl_str, rev_list, rev_tup, upper_str, List.set_cons_zero, List.set_cons_succ, setAll, List.length_cons, List.length_nil, Bool.false_eq_true, if_true, if_false, ite_self, eq_self, Bool.not_true, Bool.not_false, line, Nat.reduceLeDiff, Nat.reduceLT, Nat.reduceAdd, Int.reduceLT, Int.reduceLE, true_and, and_true, ixt0, ixt1, ixt2, ixt3, ixl0, ixl1, ixl2, ixl3]
    simp [isiB, tyN, nmB, wp_ok, op_some, op_none, bp_bool, ip_int, lp_list, tp_tup, slot_0, slot_s, WP_cB, wp_slot, wp_lit, wp_c1, wp_c2, wp_nil, wp_cons, wp_cN, wp_and, wp_or, wp_not, wp_if, wp_tup, wp_lst, wp_chain, wp_isi, wp_part0, wp_part, wp_sl, wp_call, wp_callB, wp_get, wp_idx, dc_dict, wp_seq, wp_src, wf_next, wf_brk, wf_cnt, wf_retN, wf_seq, wf_ret, wf_drop, wf_asg, wf_asgT, wf_par, wf_if, wf_app, wf_setI, tg_name, tg_tup, add_int, add_str, add_list, add_tup, sub_int, mul_int, mod_int, fdiv_int, pow_int, lt_int, le_int, gt_int, ge_int, eq_int, eq_str, ne_int, ne_str, neg_int, abs_int, int_int, int_bool, tup_list, lst_tup, lst_list, len_str, len_list, len_tup, seq_list, seq_tup, seq_str, rng1_int, rng2_int, sl_list, sl_tup, sl_str, rev_list, rev_tup, upper_str, List.set_cons_zero, List.set_cons_succ, setAll, List.length_cons, List.length_nil, Bool.false_eq_true, if_true, if_false, ite_self, eq_self, Bool.not_true, Bool.not_false, line, Nat.reduceLeDiff, Nat.reduceLT, Nat.reduceAdd, Int.reduceLT, Int.reduceLE, true_and, and_true, ixt0, ixt1, ixt2, ixt3, ixl0, ixl1, ixl2, ixl3]
def numB (lo hi : Int) : D → Bool
  | .int i => decide (lo ≤ i) && decide (i ≤ hi)
  | _ => false
theorem num_g (n : Nat) (d : D) (lo hi : Int) : evF T G (n + 1) 1 [d, .int lo, .int hi] = .ok (.bool (numB lo hi d)) := by
  refine WP.ok ?_
  rw [e1]
  refine wp_run rfl ?_
  simp only [bd1, startE, List.map, List.replicate, List.append, List.cons_append, List.nil_append, wp_ok, op_some, op_none, bp_bool, ip_int, lp_list, tp_tup, slot_0, slot_s, WP_cB, wp_slot, wp_lit, wp_c1, wp_c2, wp_nil, wp_cons, wp_cN, wp_and, wp_or, wp_not, wp_if, wp_tup, wp_lst, wp_chain, wp_isi, wp_part0, wp_part, wp_sl, wp_call, wp_callB, wp_get, wp_idx, dc_dict, wp_seq, wp_src, wf_next, wf_brk, wf_cnt, wf_retN, wf_seq, wf_ret, wf_drop, wf_asg, wf_asgT, wf_par, wf_if, wf_app, wf_setI, tg_name, tg_tup, add_int, add_str, add_list, add_tup, sub_int, mul_int, mod_int, fdiv_int, pow_int, lt_int, le_int, gt_int, ge_int, eq_int, eq_str, ne_int, ne_str, neg_int, abs_int, int_int, int_bool, tup_list, lst_tup, lst_list, len_str, len_list, len_tup, seq_list, seq_tup, seq_str, rng1_int, rng2_int, sl_list, sl_tup, sl_str, rev_list, rev_tup, upper_str, List.set_cons_zero, List.set_cons_succ, setAll, List.length_cons, List.length_nil, Bool.false_eq_true, if_true, if_false, ite_self, eq_self, Bool.not_true, Bool.not_false, line, Nat.reduceLeDiff, Nat.reduceLT, Nat.reduceAdd, Int.reduceLT, Int.reduceLE, true_and, and_true, ixt0, ixt1, ixt2, ixt3, ixl0, ixl1, ixl2, ixl3]
  cases d <;> simp [isiB, tyN, numB, wp_ok, op_some, op_none, bp_bool, ip_int, lp_list, tp_tup, slot_0, slot_s, WP_cB, wp_slot, wp_lit, wp_c1, wp_c2, wp_nil, wp_cons, wp_cN, wp_and, wp_or, wp_not, wp_if, wp_tup, wp_lst, wp_chain, wp_isi, wp_part0, wp_part, wp_sl, wp_call, wp_callB, wp_get, wp_idx, dc_dict, wp_seq, wp_src, wf_next, wf_brk, wf_cnt, wf_retN, wf_seq, wf_ret, wf_drop, wf_asg, wf_asgT, wf_par, wf_if, wf_app, wf_setI, tg_name, tg_tup, add_int, add_str, add_list, add_tup, sub_int, mul_int, mod_int, fdiv_int, pow_int, lt_int, le_int, gt_int, ge_int, eq_int, eq_str, ne_int, ne_str, neg_int, abs_int, int_int, int_bool, tup_list, lst_tup, lst_list, len_str, len_list, len_tup, seq_list, seq_tup, seq_str, rng1_int, rng2_int, sl_list, sl_tup, sl_str, rev_list, rev_tup, upper_str, List.set_cons_zero, List.set_cons_succ, setAll, List.length_cons, List.length_nil, Bool.false_eq_true, if_true, if_false, ite_self, eq_self, Bool.not_true, Bool.not_false, line, Nat.reduceLeDiff, Nat.reduceLT, Nat.reduceAdd, Int.reduceLT, Int.reduceLE, true_and, and_true, ixt0, ixt1, ixt2, ixt3, ixl0, ixl1, ixl2, ixl3]
  rename_i i
  by_cases h : lo ≤ i <;> simp [h]
def cntB : D → Bool
  | .int i => decide (0 ≤ i)
  | _ => false
theorem cnt_g (n : Nat) (d : D) : evF T G (n + 1) 3 [d] = .ok (.bool (cntB d)) := by
  refine WP.ok ?_
  rw [e3]
  refine wp_run rfl ?_
  simp only [bd3, startE, List.map, List.replicate, List.append, List.cons_append, List.nil_append, wp_ok, op_some, op_none, bp_bool, ip_int, lp_list, tp_tup, slot_0, slot_s, WP_cB, wp_slot, wp_lit, wp_c1, wp_c2, wp_nil, wp_cons, wp_cN, wp_and, wp_or, wp_not, wp_if, wp_tup, wp_lst, wp_chain, wp_isi, wp_part0, wp_part, wp_sl, wp_call, wp_callB, wp_get, wp_idx, dc_dict, wp_seq, wp_src, wf_next, wf_brk, wf_cnt, wf_retN, wf_seq, wf_ret, wf_drop, wf_asg, wf_asgT, wf_par, wf_if, wf_app, wf_setI, tg_name, tg_tup, add_int, add_str, add_list, add_tup, sub_int, mul_int, mod_int, fdiv_int, pow_int, lt_int, le_int, gt_int, ge_int, eq_int, eq_str, ne_int, ne_str, neg_int, abs_int, int_int, int_bool, tup_list, lst_tup, lst_list, len_str, len_list, len_tup, seq_list, seq_tup, seq_str, rng1_int, rng2_int, sl_list, sl_tup, sl_str, rev_list, rev_tup, upper_str, List.set_cons_zero, List.set_cons_succ, setAll, List.length_cons, List.length_nil, Bool.false_eq_true, if_true, if_false, ite_self, eq_self, Bool.not_true, Bool.not_false, line, Nat.reduceLeDiff, Nat.reduceLT, Nat.reduceAdd, Int.reduceLT, Int.reduceLE, true_and, and_true, ixt0, ixt1, ixt2, ixt3, ixl0, ixl1, ixl2, ixl3]
  cases d <;> simp [isiB, tyN, cntB, wp_ok, op_some, op_none, bp_bool, ip_int, lp_list, tp_tup, slot_0, slot_s, WP_cB, wp_slot, wp_lit, wp_c1, wp_c2, wp_nil, wp_cons, wp_cN, wp_and, wp_or, wp_not, wp_if, wp_tup, wp_lst, wp_chain, wp_isi, wp_part0, wp_part, wp_sl, wp_call, wp_callB, wp_get, wp_idx, dc_dict, wp_seq, wp_src, wf_next, wf_brk, wf_cnt, wf_retN, wf_seq, wf_ret, wf_drop, wf_asg, wf_asgT, wf_par, wf_if, wf_app, wf_setI, tg_name, tg_tup, add_int, add_str, add_list, add_tup, sub_int, mul_int, mod_int, fdiv_int, pow_int, lt_int, le_int, gt_int, ge_int, eq_int, eq_str, ne_int, ne_str, neg_int, abs_int, int_int, int_bool, tup_list, lst_tup, lst_list, len_str, len_list, len_tup, seq_list, seq_tup, seq_str, rng1_int, rng2_int, sl_list, sl_tup, sl_str, rev_list, rev_tup, upper_str, List.set_cons_zero, List.set_cons_succ, setAll, List.length_cons, List.length_nil, Bool.false_eq_true, if_true, if_false, ite_self, eq_self, Bool.not_true, Bool.not_false, line, Nat.reduceLeDiff, Nat.reduceLT, Nat.reduceAdd, Int.reduceLT, Int.reduceLE, true_and, and_true, ixt0, ixt1, ixt2, ixt3, ixl0, ixl1, ixl2, ixl3]
def twoB : D → D → Bool
  | .str x, .str y => nameB x && (nameB y && ltS x y)
  | _, _ => false
theorem two_eq (a b : D) : twoB a b = (nmB a && (nmB b && (match a, b with
    | .str x, .str y => ltS x y
    | _, _ => false))) := by
  cases a <;> cases b <;> simp [twoB, nmB]
theorem two_g (n : Nat) (a b : D) (wa : Wg a) (wb : Wg b) : evF T G (n + 2) 2 [a, b] = .ok (.bool (twoB a b)) := by
  have ea := is_name_g n a wa
  have eb := is_name_g n b wb
  refine WP.ok ?_
  rw [e2]
  refine wp_run rfl ?_
  simp only [bd2, startE, List.map, List.replicate, List.append, List.cons_append, List.nil_append, wp_ok, op_some, op_none, bp_bool, ip_int, lp_list, tp_tup, slot_0, slot_s, WP_cB, wp_slot, wp_lit, wp_c1, wp_c2, wp_nil, wp_cons, wp_cN, wp_and, wp_or, wp_not, wp_if, wp_tup, wp_lst, wp_chain, wp_isi, wp_part0, wp_part, wp_sl, wp_call, wp_callB, wp_get, wp_idx, dc_dict, wp_seq, wp_src, wf_next, wf_brk, wf_cnt, wf_retN, wf_seq, wf_ret, wf_drop, wf_asg, wf_asgT, wf_par, wf_if, wf_app, wf_setI, tg_name, tg_tup, add_int, add_str, add_list, add_tup, sub_int, mul_int, mod_int, fdiv_int, pow_int, lt_int, le_int, gt_int, ge_int, eq_int, eq_str, ne_int, ne_str, neg_int, abs_int, int_int, int_bool, tup_list, lst_tup, lst_list, len_str, len_list, len_tup, seq_list, seq_tup, seq_str, rng1_int, rng2_int, sl_list, sl_tup, sl_str, rev_list, rev_tup, upper_str, List.set_cons_zero, List.set_cons_succ, setAll, List.length_cons, List.length_nil, Bool.false_eq_true, if_true, if_false, ite_self, eq_self, Bool.not_true, Bool.not_false, line, Nat.reduceLeDiff, Nat.reduceLT, Nat.reduceAdd, Int.reduceLT, Int.reduceLE, true_and, and_true, ixt0, ixt1, ixt2, ixt3, ixl0, ixl1, ixl2, ixl3, ea, eb]
  rw [two_eq]
  cases ha : nmB a with
  | false => simp
  | true =>
    cases hb : nmB b with
    | false => simp
    | true =>
      obtain ⟨x, rfl, _⟩ := nm_shape ha
      obtain ⟨y, rfl, _⟩ := nm_shape hb
      simp
      rfl
def reasonB : D → Bool
  | .tuple [w, a, b, k] => numB 1 1000 w && (twoB a b && cntB k)
  | _ => false
def barB : D → Bool
  | .tuple [a, b, k] => twoB a b && cntB k
  | _ => false
theorem reason_g (n : Nat) (d : D) (w : Wg d) : evF T G (n + 3) 4 [d] = .ok (.bool (reasonB d)) := by
  refine WP.ok ?_
  rw [e4]
  refine wp_run rfl ?_
  simp only [bd4, startE, List.map, List.replicate, List.append, List.cons_append, List.nil_append, wp_ok, op_some, op_none, bp_bool, ip_int, lp_list, tp_tup, slot_0, slot_s, WP_cB, wp_slot, wp_lit, wp_c1, wp_c2, wp_nil, wp_cons, wp_cN, wp_and, wp_or, wp_not, wp_if, wp_tup, wp_lst, wp_chain, wp_isi, wp_part0, wp_part, wp_sl, wp_call, wp_callB, wp_get, wp_idx, dc_dict, wp_seq, wp_src, wf_next, wf_brk, wf_cnt, wf_retN, wf_seq, wf_ret, wf_drop, wf_asg, wf_asgT, wf_par, wf_if, wf_app, wf_setI, tg_name, tg_tup, add_int, add_str, add_list, add_tup, sub_int, mul_int, mod_int, fdiv_int, pow_int, lt_int, le_int, gt_int, ge_int, eq_int, eq_str, ne_int, ne_str, neg_int, abs_int, int_int, int_bool, tup_list, lst_tup, lst_list, len_str, len_list, len_tup, seq_list, seq_tup, seq_str, rng1_int, rng2_int, sl_list, sl_tup, sl_str, rev_list, rev_tup, upper_str, List.set_cons_zero, List.set_cons_succ, setAll, List.length_cons, List.length_nil, Bool.false_eq_true, if_true, if_false, ite_self, eq_self, Bool.not_true, Bool.not_false, line, Nat.reduceLeDiff, Nat.reduceLT, Nat.reduceAdd, Int.reduceLT, Int.reduceLE, true_and, and_true, ixt0, ixt1, ixt2, ixt3, ixl0, ixl1, ixl2, ixl3]
  cases w with
  | tup hl hx =>
    rename_i xs
    rcases xs with _ | ⟨a, _ | ⟨b, _ | ⟨c, _ | ⟨e, _ | ⟨f, r⟩⟩⟩⟩⟩
    · simp [isiB, tyN, reasonB, wp_ok, op_some, op_none, bp_bool, ip_int, lp_list, tp_tup, slot_0, slot_s, WP_cB, wp_slot, wp_lit, wp_c1, wp_c2, wp_nil, wp_cons, wp_cN, wp_and, wp_or, wp_not, wp_if, wp_tup, wp_lst, wp_chain, wp_isi, wp_part0, wp_part, wp_sl, wp_call, wp_callB, wp_get, wp_idx, dc_dict, wp_seq, wp_src, wf_next, wf_brk, wf_cnt, wf_retN, wf_seq, wf_ret, wf_drop, wf_asg, wf_asgT, wf_par, wf_if, wf_app, wf_setI, tg_name, tg_tup, add_int, add_str, add_list, add_tup, sub_int, mul_int, mod_int, fdiv_int, pow_int, lt_int, le_int, gt_int, ge_int, eq_int, eq_str, ne_int, ne_str, neg_int, abs_int, int_int, int_bool, tup_list, lst_tup, lst_list, len_str, len_list, len_tup, seq_list, seq_tup, seq_str, rng1_int, rng2_int, sl_list, sl_tup, sl_str, rev_list, rev_tup, upper_str, List.set_cons_zero, List.set_cons_succ, setAll, List.length_cons, List.length_nil, Bool.false_eq_true, if_true, if_false, ite_self, eq_self, Bool.not_true, Bool.not_false, line, Nat.reduceLeDiff, Nat.reduceLT, Nat.reduceAdd, Int.reduceLT, Int.reduceLE, true_and, and_true, ixt0, ixt1, ixt2, ixt3, ixl0, ixl1, ixl2, ixl3]
    · simp [isiB, tyN, reasonB, wp_ok, op_some, op_none, bp_bool, ip_int, lp_list, tp_tup, slot_0, slot_s, WP_cB, wp_slot, wp_lit, wp_c1, wp_c2, wp_nil, wp_cons, wp_cN, wp_and, wp_or, wp_not, wp_if, wp_tup, wp_lst, wp_chain, wp_isi, wp_part0, wp_part, wp_sl, wp_call, wp_callB, wp_get, wp_idx, dc_dict, wp_seq, wp_src, wf_next, wf_brk, wf_cnt, wf_retN, wf_seq, wf_ret, wf_drop, wf_asg, wf_asgT, wf_par, wf_if, wf_app, wf_setI, tg_name, tg_tup, add_int, add_str, add_list, add_tup, sub_int, mul_int, mod_int, fdiv_int, pow_int, lt_int, le_int, gt_int, ge_int, eq_int, eq_str, ne_int, ne_str, neg_int, abs_int, int_int, int_bool, tup_list, lst_tup, lst_list, len_str, len_list, len_tup, seq_list, seq_tup, seq_str, rng1_int, rng2_int, sl_list, sl_tup, sl_str, rev_list, rev_tup, upper_str, List.set_cons_zero, List.set_cons_succ, setAll, List.length_cons, List.length_nil, Bool.false_eq_true, if_true, if_false, ite_self, eq_self, Bool.not_true, Bool.not_false, line, Nat.reduceLeDiff, Nat.reduceLT, Nat.reduceAdd, Int.reduceLT, Int.reduceLE, true_and, and_true, ixt0, ixt1, ixt2, ixt3, ixl0, ixl1, ixl2, ixl3]
    · simp [isiB, tyN, reasonB, wp_ok, op_some, op_none, bp_bool, ip_int, lp_list, tp_tup, slot_0, slot_s, WP_cB, wp_slot, wp_lit, wp_c1, wp_c2, wp_nil, wp_cons, wp_cN, wp_and, wp_or, wp_not, wp_if, wp_tup, wp_lst, wp_chain, wp_isi, wp_part0, wp_part, wp_sl, wp_call, wp_callB, wp_get, wp_idx, dc_dict, wp_seq, wp_src, wf_next, wf_brk, wf_cnt, wf_retN, wf_seq, wf_ret, wf_drop, wf_asg, wf_asgT, wf_par, wf_if, wf_app, wf_setI, tg_name, tg_tup, add_int, add_str, add_list, add_tup, sub_int, mul_int, mod_int, fdiv_int, pow_int, lt_int, le_int, gt_int, ge_int, eq_int, eq_str, ne_int, ne_str, neg_int, abs_int, int_int, int_bool, tup_list, lst_tup, lst_list, len_str, len_list, len_tup, seq_list, seq_tup, seq_str, rng1_int, rng2_int, sl_list, sl_tup, sl_str, rev_list, rev_tup, upper_str, List.set_cons_zero, List.set_cons_succ, setAll, List.length_cons, List.length_nil, Bool.false_eq_true, if_true, if_false, ite_self, eq_self, Bool.not_true, Bool.not_false, line, Nat.reduceLeDiff, Nat.reduceLT, Nat.reduceAdd, Int.reduceLT, Int.reduceLE, true_and, and_true, ixt0, ixt1, ixt2, ixt3, ixl0, ixl1, ixl2, ixl3]
    · simp [isiB, tyN, reasonB, wp_ok, op_some, op_none, bp_bool, ip_int, lp_list, tp_tup, slot_0, slot_s, WP_cB, wp_slot, wp_lit, wp_c1, wp_c2, wp_nil, wp_cons, wp_cN, wp_and, wp_or, wp_not, wp_if, wp_tup, wp_lst, wp_chain, wp_isi, wp_part0, wp_part, wp_sl, wp_call, wp_callB, wp_get, wp_idx, dc_dict, wp_seq, wp_src, wf_next, wf_brk, wf_cnt, wf_retN, wf_seq, wf_ret, wf_drop, wf_asg, wf_asgT, wf_par, wf_if, wf_app, wf_setI, tg_name, tg_tup, add_int, add_str, add_list, add_tup, sub_int, mul_int, mod_int, fdiv_int, pow_int, lt_int, le_int, gt_int, ge_int, eq_int, eq_str, ne_int, ne_str, neg_int, abs_int, int_int, int_bool, tup_list, lst_tup, lst_list, len_str, len_list, len_tup, seq_list, seq_tup, seq_str, rng1_int, rng2_int, sl_list, sl_tup, sl_str, rev_list, rev_tup, upper_str, List.set_cons_zero, List.set_cons_succ, setAll, List.length_cons, List.length_nil, Bool.false_eq_true, if_true, if_false, ite_self, eq_self, Bool.not_true, Bool.not_false, line, Nat.reduceLeDiff, Nat.reduceLT, Nat.reduceAdd, Int.reduceLT, Int.reduceLE, true_and, and_true, ixt0, ixt1, ixt2, ixt3, ixl0, ixl1, ixl2, ixl3]
    · have t1 := num_g (n + 1) a 1 1000
      have t2 := two_g n b c (hx b (by simp)) (hx c (by simp))
      have t3 := cnt_g (n + 1) e
      simp [isiB, tyN, reasonB, t1, t2, t3, wp_ok, op_some, op_none, bp_bool, ip_int, lp_list, tp_tup, slot_0, slot_s, WP_cB, wp_slot, wp_lit, wp_c1, wp_c2, wp_nil, wp_cons, wp_cN, wp_and, wp_or, wp_not, wp_if, wp_tup, wp_lst, wp_chain, wp_isi, wp_part0, wp_part, wp_sl, wp_call, wp_callB, wp_get, wp_idx, dc_dict, wp_seq, wp_src, wf_next, wf_brk, wf_cnt, wf_retN, wf_seq, wf_ret, wf_drop, wf_asg, wf_asgT, wf_par, wf_if, wf_app, wf_setI, tg_name, tg_tup, add_int, add_str, add_list, add_tup, sub_int, mul_int, mod_int, fdiv_int, pow_int, lt_int, le_int, gt_int, ge_int, eq_int, eq_str, ne_int, ne_str, neg_int, abs_int, int_int, int_bool, tup_list, lst_tup, lst_list, len_str, len_list, len_tup, seq_list, seq_tup, seq_str, rng1_int, rng2_int, sl_list, sl_tup, sl_str, rev_list, rev_tup, upper_str, List.set_cons_zero, List.set_cons_succ, setAll, List.length_cons, List.length_nil, Bool.false_eq_true, if_true, if_false, ite_self, eq_self, Bool.not_true, Bool.not_false, line, Nat.reduceLeDiff, Nat.reduceLT, Nat.reduceAdd, Int.reduceLT, Int.reduceLE, true_and, and_true, ixt0, ixt1, ixt2, ixt3, ixl0, ixl1, ixl2, ixl3]
      cases numB 1 1000 a <;> simp
      cases twoB b c <;> simp
    · simp [isiB, tyN, reasonB, wp_ok, op_some, op_none, bp_bool, ip_int, lp_list, tp_tup, slot_0, slot_s, WP_cB, wp_slot, wp_lit, wp_c1, wp_c2, wp_nil, wp_cons, wp_cN, wp_and, wp_or, wp_not, wp_if, wp_tup, wp_lst, wp_chain, wp_isi, wp_part0, wp_part, wp_sl, wp_call, wp_callB, wp_get, wp_idx, dc_dict, wp_seq, wp_src, wf_next, wf_brk, wf_cnt, wf_retN, wf_seq, wf_ret, wf_drop, wf_asg, wf_asgT, wf_par, wf_if, wf_app, wf_setI, tg_name, tg_tup, add_int, add_str, add_list, add_tup, sub_int, mul_int, mod_int, fdiv_int, pow_int, lt_int, le_int, gt_int, ge_int, eq_int, eq_str, ne_int, ne_str, neg_int, abs_int, int_int, int_bool, tup_list, lst_tup, lst_list, len_str, len_list, len_tup, seq_list, seq_tup, seq_str, rng1_int, rng2_int, sl_list, sl_tup, sl_str, rev_list, rev_tup, upper_str, List.set_cons_zero, List.set_cons_succ, setAll, List.length_cons, List.length_nil, Bool.false_eq_true, if_true, if_false, ite_self, eq_self, Bool.not_true, Bool.not_false, line, Nat.reduceLeDiff, Nat.reduceLT, Nat.reduceAdd, Int.reduceLT, Int.reduceLE, true_and, and_true, ixt0, ixt1, ixt2, ixt3, ixl0, ixl1, ixl2, ixl3]
      intro h
      omega
  | _ => simp [isiB, tyN, reasonB, wp_ok, op_some, op_none, bp_bool, ip_int, lp_list, tp_tup, slot_0, slot_s, WP_cB, wp_slot, wp_lit, wp_c1, wp_c2, wp_nil, wp_cons, wp_cN, wp_and, wp_or, wp_not, wp_if, wp_tup, wp_lst, wp_chain, wp_isi, wp_part0, wp_part, wp_sl, wp_call, wp_callB, wp_get, wp_idx, dc_dict, wp_seq, wp_src, wf_next, wf_brk, wf_cnt, wf_retN, wf_seq, wf_ret, wf_drop, wf_asg, wf_asgT, wf_par, wf_if, wf_app, wf_setI, tg_name, tg_tup, add_int, add_str, add_list, add_tup, sub_int, mul_int, mod_int, fdiv_int, pow_int, lt_int, le_int, gt_int, ge_int, eq_int, eq_str, ne_int, ne_str, neg_int, abs_int, int_int, int_bool, tup_list, lst_tup, lst_list, len_str, len_list, len_tup, seq_list, seq_tup, seq_str, rng1_int, rng2_int, sl_list, sl_tup, sl_str, rev_list, rev_tup, upper_str, List.set_cons_zero, List.set_cons_succ, setAll, List.length_cons, List.length_nil, Bool.false_eq_true, if_true, if_false, ite_self, eq_self, Bool.not_true, Bool.not_false, line, Nat.reduceLeDiff, Nat.reduceLT, Nat.reduceAdd, Int.reduceLT, Int.reduceLE, true_and, and_true, ixt0, ixt1, ixt2, ixt3, ixl0, ixl1, ixl2, ixl3]
theorem bar_g (n : Nat) (d : D) (w : Wg d) : evF T G (n + 3) 5 [d] = .ok (.bool (barB d)) := by
  refine WP.ok ?_
  rw [e5]
  refine wp_run rfl ?_
  simp only [bd5, startE, List.map, List.replicate, List.append, List.cons_append, List.nil_append, wp_ok, op_some, op_none, bp_bool, ip_int, lp_list, tp_tup, slot_0, slot_s, WP_cB, wp_slot, wp_lit, wp_c1, wp_c2, wp_nil, wp_cons, wp_cN, wp_and, wp_or, wp_not, wp_if, wp_tup, wp_lst, wp_chain, wp_isi, wp_part0, wp_part, wp_sl, wp_call, wp_callB, wp_get, wp_idx, dc_dict, wp_seq, wp_src, wf_next, wf_brk, wf_cnt, wf_retN, wf_seq, wf_ret, wf_drop, wf_asg, wf_asgT, wf_par, wf_if, wf_app, wf_setI, tg_name, tg_tup, add_int, add_str, add_list, add_tup, sub_int, mul_int, mod_int, fdiv_int, pow_int, lt_int, le_int, gt_int, ge_int, eq_int, eq_str, ne_int, ne_str, neg_int, abs_int, int_int, int_bool, tup_list, lst_tup, lst_list, len_str, len_list, len_tup, seq_list, seq_tup, seq_str, rng1_int, rng2_int, sl_list, sl_tup, sl_str, rev_list, rev_tup, upper_str, List.set_cons_zero, List.set_cons_succ, setAll, List.length_cons, List.length_nil, Bool.false_eq_true, if_true, if_false, ite_self, eq_self, Bool.not_true, Bool.not_false, line, Nat.reduceLeDiff, Nat.reduceLT, Nat.reduceAdd, Int.reduceLT, Int.reduceLE, true_and, and_true, ixt0, ixt1, ixt2, ixt3, ixl0, ixl1, ixl2, ixl3]
  cases w with
  | tup hl hx =>
    rename_i xs
    rcases xs with _ | ⟨a, _ | ⟨b, _ | ⟨c, _ | ⟨e, r⟩⟩⟩⟩
    · simp [isiB, tyN, barB, wp_ok, op_some, op_none, bp_bool, ip_int, lp_list, tp_tup, slot_0, slot_s, WP_cB, wp_slot, wp_lit, wp_c1, wp_c2, wp_nil, wp_cons, wp_cN, wp_and, wp_or, wp_not, wp_if, wp_tup, wp_lst, wp_chain, wp_isi, wp_part0, wp_part, wp_sl, wp_call, wp_callB, wp_get, wp_idx, dc_dict, wp_seq, wp_src, wf_next, wf_brk, wf_cnt, wf_retN, wf_seq, wf_ret, wf_drop, wf_asg, wf_asgT, wf_par, wf_if, wf_app, wf_setI, tg_name, tg_tup, add_int, add_str, add_list, add_tup, sub_int, mul_int, mod_int, fdiv_int, pow_int, lt_int, le_int, gt_int, ge_int, eq_int, eq_str, ne_int, ne_str, neg_int, abs_int, int_int, int_bool, tup_list, lst_tup, lst_list, len_str, len_list, len_tup, seq_list, seq_tup, seq_str, rng1_int, rng2_int, sl_list, sl_tup, sl_str, rev_list, rev_tup, upper_str, List.set_cons_zero, List.set_cons_succ, setAll, List.length_cons, List.length_nil, Bool.false_eq_true, if_true, if_false, ite_self, eq_self, Bool.not_true, Bool.not_false, line, Nat.reduceLeDiff, Nat.reduceLT, Nat.reduceAdd, Int.reduceLT, Int.reduceLE, true_and, and_true, ixt0, ixt1, ixt2, ixt3, ixl0, ixl1, ixl2, ixl3]
    · simp [isiB, tyN, barB, wp_ok, op_some, op_none, bp_bool, ip_int, lp_list, tp_tup, slot_0, slot_s, WP_cB, wp_slot, wp_lit, wp_c1, wp_c2, wp_nil, wp_cons, wp_cN, wp_and, wp_or, wp_not, wp_if, wp_tup, wp_lst, wp_chain, wp_isi, wp_part0, wp_part, wp_sl, wp_call, wp_callB, wp_get, wp_idx, dc_dict, wp_seq, wp_src, wf_next, wf_brk, wf_cnt, wf_retN, wf_seq, wf_ret, wf_drop, wf_asg, wf_asgT, wf_par, wf_if, wf_app, wf_setI, tg_name, tg_tup, add_int, add_str, add_list, add_tup, sub_int, mul_int, mod_int, fdiv_int, pow_int, lt_int, le_int, gt_int, ge_int, eq_int, eq_str, ne_int, ne_str, neg_int, abs_int, int_int, int_bool, tup_list, lst_tup, lst_list, len_str, len_list, len_tup, seq_list, seq_tup, seq_str, rng1_int, rng2_int, sl_list, sl_tup, sl_str, rev_list, rev_tup, upper_str, List.set_cons_zero, List.set_cons_succ, setAll, List.length_cons, List.length_nil, Bool.false_eq_true, if_true, if_false, ite_self, eq_self, Bool.not_true, Bool.not_false, line, Nat.reduceLeDiff, Nat.reduceLT, Nat.reduceAdd, Int.reduceLT, Int.reduceLE, true_and, and_true, ixt0, ixt1, ixt2, ixt3, ixl0, ixl1, ixl2, ixl3]
    · simp [isiB, tyN, barB, wp_ok, op_some, op_none, bp_bool, ip_int, lp_list, tp_tup, slot_0, slot_s, WP_cB, wp_slot, wp_lit, wp_c1, wp_c2, wp_nil, wp_cons, wp_cN, wp_and, wp_or, wp_not, wp_if, wp_tup, wp_lst, wp_chain, wp_isi, wp_part0, wp_part, wp_sl, wp_call, wp_callB, wp_get, wp_idx, dc_dict, wp_seq, wp_src, wf_next, wf_brk, wf_cnt, wf_retN, wf_seq, wf_ret, wf_drop, wf_asg, wf_asgT, wf_par, wf_if, wf_app, wf_setI, tg_name, tg_tup, add_int, add_str, add_list, add_tup, sub_int, mul_int, mod_int, fdiv_int, pow_int, lt_int, le_int, gt_int, ge_int, eq_int, eq_str, ne_int, ne_str, neg_int, abs_int, int_int, int_bool, tup_list, lst_tup, lst_list, len_str, len_list, len_tup, seq_list, seq_tup, seq_str, rng1_int, rng2_int, sl_list, sl_tup, sl_str, rev_list, rev_tup, upper_str, List.set_cons_zero, List.set_cons_succ, setAll, List.length_cons, List.length_nil, Bool.false_eq_true, if_true, if_false, ite_self, eq_self, Bool.not_true, Bool.not_false, line, Nat.reduceLeDiff, Nat.reduceLT, Nat.reduceAdd, Int.reduceLT, Int.reduceLE, true_and, and_true, ixt0, ixt1, ixt2, ixt3, ixl0, ixl1, ixl2, ixl3]
    · have t2 := two_g n a b (hx a (by simp)) (hx b (by simp))
      have t3 := cnt_g (n + 1) c
      simp [isiB, tyN, barB, t2, t3, wp_ok, op_some, op_none, bp_bool, ip_int, lp_list, tp_tup, slot_0, slot_s, WP_cB, wp_slot, wp_lit, wp_c1, wp_c2, wp_nil, wp_cons, wp_cN, wp_and, wp_or, wp_not, wp_if, wp_tup, wp_lst, wp_chain, wp_isi, wp_part0, wp_part, wp_sl, wp_call, wp_callB, wp_get, wp_idx, dc_dict, wp_seq, wp_src, wf_next, wf_brk, wf_cnt, wf_retN, wf_seq, wf_ret, wf_drop, wf_asg, wf_asgT, wf_par, wf_if, wf_app, wf_setI, tg_name, tg_tup, add_int, add_str, add_list, add_tup, sub_int, mul_int, mod_int, fdiv_int, pow_int, lt_int, le_int, gt_int, ge_int, eq_int, eq_str, ne_int, ne_str, neg_int, abs_int, int_int, int_bool, tup_list, lst_tup, lst_list, len_str, len_list, len_tup, seq_list, seq_tup, seq_str, rng1_int, rng2_int, sl_list, sl_tup, sl_str, rev_list, rev_tup, upper_str, List.set_cons_zero, List.set_cons_succ, setAll, List.length_cons, List.length_nil, Bool.false_eq_true, if_true, if_false, ite_self, eq_self, Bool.not_true, Bool.not_false, line, Nat.reduceLeDiff, Nat.reduceLT, Nat.reduceAdd, Int.reduceLT, Int.reduceLE, true_and, and_true, ixt0, ixt1, ixt2, ixt3, ixl0, ixl1, ixl2, ixl3]
      cases twoB a b <;> simp
    · have : ¬ ((r.length : Int) + 1 + 1 + 1 + 1 = 3) := by omega
      simp [isiB, tyN, barB, this, wp_ok, op_some, op_none, bp_bool, ip_int, lp_list, tp_tup, slot_0, slot_s, WP_cB, wp_slot, wp_lit, wp_c1, wp_c2, wp_nil, wp_cons, wp_cN, wp_and, wp_or, wp_not, wp_if, wp_tup, wp_lst, wp_chain, wp_isi, wp_part0, wp_part, wp_sl, wp_call, wp_callB, wp_get, wp_idx, dc_dict, wp_seq, wp_src, wf_next, wf_brk, wf_cnt, wf_retN, wf_seq, wf_ret, wf_drop, wf_asg, wf_asgT, wf_par, wf_if, wf_app, wf_setI, tg_name, tg_tup, add_int, add_str, add_list, add_tup, sub_int, mul_int, mod_int, fdiv_int, pow_int, lt_int, le_int, gt_int, ge_int, eq_int, eq_str, ne_int, ne_str, neg_int, abs_int, int_int, int_bool, tup_list, lst_tup, lst_list, len_str, len_list, len_tup, seq_list, seq_tup, seq_str, rng1_int, rng2_int, sl_list, sl_tup, sl_str, rev_list, rev_tup, upper_str, List.set_cons_zero, List.set_cons_succ, setAll, List.length_cons, List.length_nil, Bool.false_eq_true, if_true, if_false, ite_self, eq_self, Bool.not_true, Bool.not_false, line, Nat.reduceLeDiff, Nat.reduceLT, Nat.reduceAdd, Int.reduceLT, Int.reduceLE, true_and, and_true, ixt0, ixt1, ixt2, ixt3, ixl0, ixl1, ixl2, ixl3]
  | _ => simp [isiB, tyN, barB, wp_ok, op_some, op_none, bp_bool, ip_int, lp_list, tp_tup, slot_0, slot_s, WP_cB, wp_slot, wp_lit, wp_c1, wp_c2, wp_nil, wp_cons, wp_cN, wp_and, wp_or, wp_not, wp_if, wp_tup, wp_lst, wp_chain, wp_isi, wp_part0, wp_part, wp_sl, wp_call, wp_callB, wp_get, wp_idx, dc_dict, wp_seq, wp_src, wf_next, wf_brk, wf_cnt, wf_retN, wf_seq, wf_ret, wf_drop, wf_asg, wf_asgT, wf_par, wf_if, wf_app, wf_setI, tg_name, tg_tup, add_int, add_str, add_list, add_tup, sub_int, mul_int, mod_int, fdiv_int, pow_int, lt_int, le_int, gt_int, ge_int, eq_int, eq_str, ne_int, ne_str, neg_int, abs_int, int_int, int_bool, tup_list, lst_tup, lst_list, len_str, len_list, len_tup, seq_list, seq_tup, seq_str, rng1_int, rng2_int, sl_list, sl_tup, sl_str, rev_list, rev_tup, upper_str, List.set_cons_zero, List.set_cons_succ, setAll, List.length_cons, List.length_nil, Bool.false_eq_true, if_true, if_false, ite_self, eq_self, Bool.not_true, Bool.not_false, line, Nat.reduceLeDiff, Nat.reduceLT, Nat.reduceAdd, Int.reduceLT, Int.reduceLE, true_and, and_true, ixt0, ixt1, ixt2, ixt3, ixl0, ixl1, ixl2, ixl3]
theorem rising_all {k : Nat} {ds : List D} (h : Rows k ds) (hk : k ≤ 60) (v : D) (hv : v = .list ds ∨ v = .tuple ds) (n : Nat) : evF T G (n + 1) 6 [v] = .ok (.bool (adjD ds)) := by
  refine WP.ok ?_
  rw [e6]
  refine wp_run rfl ?_
  have few := h.few
  have main : WP (cComp [1] false [1] (cSrc rng2 [cLit (.int 1), cN lenG [cSlot 0]]) cYes (c2 ltD (c2 ixD (cSlot 0) (c2 subD (cSlot 1) (cLit (.int 1)))) (c2 ixD (cSlot 0) (cSlot 1))) [some v, none]) fun a => OP (allG [a]) fun x => x = .bool (adjD ds) := by
    refine wp_compM (fun d => .bool (match d with
      | .int i => PySem.W.dataLt (ds.getD (i.toNat - 1) .none) (ds.getD i.toNat .none)
      | _ => false)) ?_
    have hlen : ∀ Q : D → Prop, OP (lenG [v]) Q = Q (.int ds.length) := fun Q => by
      rcases hv with rfl | rfl
      · rw [len_list]
      · rw [len_tup]
    have ixv : ∀ (j : Nat) (hj : j < ds.length) (Q : D → Prop), OP (ixD v (.int (j : Nat))) Q = Q ds[j] := fun j hj Q => by
      rcases hv with rfl | rfl
      · show OP (L2.atI ds ((j : Nat) : Int)) Q = _
        rw [atI_nat (List.getElem?_eq_getElem hj)]; rfl
      · show OP (L2.atI ds ((j : Nat) : Int)) Q = _
        rw [atI_nat (List.getElem?_eq_getElem hj)]; rfl
    simp only [wp_ok, op_some, op_none, bp_bool, ip_int, lp_list, tp_tup, slot_0, slot_s, WP_cB, wp_slot, wp_lit, wp_c1, wp_c2, wp_nil, wp_cons, wp_cN, wp_and, wp_or, wp_not, wp_if, wp_tup, wp_lst, wp_chain, wp_isi, wp_part0, wp_part, wp_sl, wp_call, wp_callB, wp_get, wp_idx, dc_dict, wp_seq, wp_src, wf_next, wf_brk, wf_cnt, wf_retN, wf_seq, wf_ret, wf_drop, wf_asg, wf_asgT, wf_par, wf_if, wf_app, wf_setI, tg_name, tg_tup, add_int, add_str, add_list, add_tup, sub_int, mul_int, mod_int, fdiv_int, pow_int, lt_int, le_int, gt_int, ge_int, eq_int, eq_str, ne_int, ne_str, neg_int, abs_int, int_int, int_bool, tup_list, lst_tup, lst_list, len_str, len_list, len_tup, seq_list, seq_tup, seq_str, rng1_int, rng2_int, sl_list, sl_tup, sl_str, rev_list, rev_tup, upper_str, List.set_cons_zero, List.set_cons_succ, setAll, List.length_cons, List.length_nil, Bool.false_eq_true, if_true, if_false, ite_self, eq_self, Bool.not_true, Bool.not_false, line, Nat.reduceLeDiff, Nat.reduceLT, Nat.reduceAdd, Int.reduceLT, Int.reduceLE, true_and, and_true, ixt0, ixt1, ixt2, ixt3, ixl0, ixl1, ixl2, ixl3, hlen]
    refine ⟨by rw [Bool.and_eq_true]; exact ⟨by decide, in62_of' (by omega) (by omega)⟩, by rw [range_len]; omega, fun d hd => ?_, ?_⟩
    · obtain ⟨j, hj, rfl⟩ := range_mem hd
      have e1 : (1 + (j : Int)) - 1 = ((j : Nat) : Int) := by omega
      have e2 : 1 + (j : Int) = ((j + 1 : Nat) : Int) := by omega
      have j1 : j < ds.length := by omega
      have j2 : j + 1 < ds.length := by omega
      rw [sub_int, e1, ixv j j1, e2, ixv (j + 1) j2, lt_rows h (List.getElem_mem j1) (List.getElem_mem j2) hk]
      have e3 : (((j + 1 : Nat) : Int)).toNat = j + 1 := by omega
      show PyData.bool _ = PyData.bool _
      simp [e3, j1, j2]
    · rw [all_map, adjD_at]
      have el : ((ds.length : Int) - 1).toNat = ds.length - 1 := by omega
      unfold rangeD
      rw [List.all_map, el]
      congr 1
      refine List.all_congr rfl fun j => ?_
      have e1 : (1 + (j : Int)).toNat = j + 1 := by omega
      simp [e1]
  rcases hv with rfl | rfl
  · simp only [bd6, startE, List.map, List.replicate, List.append, List.cons_append, List.nil_append, wp_ok, op_some, op_none, bp_bool, ip_int, lp_list, tp_tup, slot_0, slot_s, WP_cB, wp_slot, wp_lit, wp_c1, wp_c2, wp_nil, wp_cons, wp_cN, wp_and, wp_or, wp_not, wp_if, wp_tup, wp_lst, wp_chain, wp_isi, wp_part0, wp_part, wp_sl, wp_call, wp_callB, wp_get, wp_idx, dc_dict, wp_seq, wp_src, wf_next, wf_brk, wf_cnt, wf_retN, wf_seq, wf_ret, wf_drop, wf_asg, wf_asgT, wf_par, wf_if, wf_app, wf_setI, tg_name, tg_tup, add_int, add_str, add_list, add_tup, sub_int, mul_int, mod_int, fdiv_int, pow_int, lt_int, le_int, gt_int, ge_int, eq_int, eq_str, ne_int, ne_str, neg_int, abs_int, int_int, int_bool, tup_list, lst_tup, lst_list, len_str, len_list, len_tup, seq_list, seq_tup, seq_str, rng1_int, rng2_int, sl_list, sl_tup, sl_str, rev_list, rev_tup, upper_str, List.set_cons_zero, List.set_cons_succ, setAll, List.length_cons, List.length_nil, Bool.false_eq_true, if_true, if_false, ite_self, eq_self, Bool.not_true, Bool.not_false, line, Nat.reduceLeDiff, Nat.reduceLT, Nat.reduceAdd, Int.reduceLT, Int.reduceLE, true_and, and_true, ixt0, ixt1, ixt2, ixt3, ixl0, ixl1, ixl2, ixl3]
    exact main
  · simp only [bd6, startE, List.map, List.replicate, List.append, List.cons_append, List.nil_append, wp_ok, op_some, op_none, bp_bool, ip_int, lp_list, tp_tup, slot_0, slot_s, WP_cB, wp_slot, wp_lit, wp_c1, wp_c2, wp_nil, wp_cons, wp_cN, wp_and, wp_or, wp_not, wp_if, wp_tup, wp_lst, wp_chain, wp_isi, wp_part0, wp_part, wp_sl, wp_call, wp_callB, wp_get, wp_idx, dc_dict, wp_seq, wp_src, wf_next, wf_brk, wf_cnt, wf_retN, wf_seq, wf_ret, wf_drop, wf_asg, wf_asgT, wf_par, wf_if, wf_app, wf_setI, tg_name, tg_tup, add_int, add_str, add_list, add_tup, sub_int, mul_int, mod_int, fdiv_int, pow_int, lt_int, le_int, gt_int, ge_int, eq_int, eq_str, ne_int, ne_str, neg_int, abs_int, int_int, int_bool, tup_list, lst_tup, lst_list, len_str, len_list, len_tup, seq_list, seq_tup, seq_str, rng1_int, rng2_int, sl_list, sl_tup, sl_str, rev_list, rev_tup, upper_str, List.set_cons_zero, List.set_cons_succ, setAll, List.length_cons, List.length_nil, Bool.false_eq_true, if_true, if_false, ite_self, eq_self, Bool.not_true, Bool.not_false, line, Nat.reduceLeDiff, Nat.reduceLT, Nat.reduceAdd, Int.reduceLT, Int.reduceLE, true_and, and_true, ixt0, ixt1, ixt2, ixt3, ixl0, ixl1, ixl2, ixl3]
    exact main
theorem reason_shape {d : D} (h : reasonB d = true) : ∃ (w : Int) (x y : Str) (k : Int), d = .tuple [.int w, .str x, .str y, .int k] ∧ 1 ≤ w ∧ w ≤ 1000 ∧ nameB x = true ∧ nameB y = true ∧ ltS x y = true ∧ 0 ≤ k := by
  cases d <;> first | cases h | skip
  rename_i xs
  rcases xs with _ | ⟨a, _ | ⟨b, _ | ⟨c, _ | ⟨e, _ | ⟨f, r⟩⟩⟩⟩⟩ <;> first | cases h | skip
  have h : (numB 1 1000 a && (twoB b c && cntB e)) = true := h
  simp only [Bool.and_eq_true] at h
  obtain ⟨h1, h2, h3⟩ := h
  cases a <;> first | cases h1 | skip
  cases b <;> first | cases h2 | skip
  cases c <;> first | cases h2 | skip
  cases e <;> first | cases h3 | skip
  simp only [numB, twoB, cntB, Bool.and_eq_true, decide_eq_true_eq] at h1 h2 h3
  exact ⟨_, _, _, _, rfl, h1.1, h1.2, h2.1, h2.2.1, h2.2.2, h3⟩
theorem bar_shape {d : D} (h : barB d = true) : ∃ (x y : Str) (k : Int), d = .tuple [.str x, .str y, .int k] ∧ nameB x = true ∧ nameB y = true ∧ ltS x y = true ∧ 0 ≤ k := by
  cases d <;> first | cases h | skip
  rename_i xs
  rcases xs with _ | ⟨b, _ | ⟨c, _ | ⟨e, _ | ⟨f, r⟩⟩⟩⟩ <;> first | cases h | skip
  have h : (twoB b c && cntB e) = true := h
  simp only [Bool.and_eq_true] at h
  obtain ⟨h2, h3⟩ := h
  cases b <;> first | cases h2 | skip
  cases c <;> first | cases h2 | skip
  cases e <;> first | cases h3 | skip
  simp only [twoB, cntB, Bool.and_eq_true, decide_eq_true_eq] at h2 h3
  exact ⟨_, _, _, rfl, h2.1, h2.2.1, h2.2.2, h3⟩
theorem rows_neg {rs : List D} (h : rs.all reasonB = true) (hl : rs.length ≤ 61) : Rows 1 (rs.map ngD) := by
  refine rows_of (.inl fun d hd => ?_) (by rw [List.length_map]; exact hl)
  obtain ⟨r, hr, rfl⟩ := List.mem_map.mp hd
  obtain ⟨w, x, y, k, rfl, _, _, hx, hy, _⟩ := reason_shape (List.all_eq_true.mp h r hr)
  exact ⟨0 - w, x, y, k, rfl, hx, hy⟩
theorem rows_bars {bs : List D} (h : bs.all barB = true) (hl : bs.length ≤ 61) : Rows 1 bs := by
  refine rows_of (.inr fun d hd => ?_) hl
  obtain ⟨x, y, k, rfl, hx, hy, _⟩ := bar_shape (List.all_eq_true.mp h d hd)
  exact ⟨x, y, k, rfl, hx, hy⟩
/-- the names of a row are among the names -/
def inN (ns : List D) (d : D) : Bool := ns.any fun z => PyData.eqv z d
def endsR (ns : List D) : D → Bool
  | .tuple [_, a, b, _] => inN ns a && inN ns b
  | _ => false
def endsB (ns : List D) : D → Bool
  | .tuple [a, b, _] => inN ns a && inN ns b
  | _ => false
def namesB : D → Bool
  | .tuple ns => ns.all nmB && adjD ns
  | _ => false
theorem names_g (n : Nat) (d : D) (w : Wg d) : evF T G (n + 3) 7 [d] = .ok (.bool (namesB d)) := by
  refine WP.ok ?_
  rw [e7]
  refine wp_run rfl ?_
  simp only [bd7, startE, List.map, List.replicate, List.append, List.cons_append, List.nil_append, wp_ok, op_some, op_none, bp_bool, ip_int, lp_list, tp_tup, slot_0, slot_s, WP_cB, wp_slot, wp_lit, wp_c1, wp_c2, wp_nil, wp_cons, wp_cN, wp_and, wp_or, wp_not, wp_if, wp_tup, wp_lst, wp_chain, wp_isi, wp_part0, wp_part, wp_sl, wp_call, wp_callB, wp_get, wp_idx, dc_dict, wp_seq, wp_src, wf_next, wf_brk, wf_cnt, wf_retN, wf_seq, wf_ret, wf_drop, wf_asg, wf_asgT, wf_par, wf_if, wf_app, wf_setI, tg_name, tg_tup, add_int, add_str, add_list, add_tup, sub_int, mul_int, mod_int, fdiv_int, pow_int, lt_int, le_int, gt_int, ge_int, eq_int, eq_str, ne_int, ne_str, neg_int, abs_int, int_int, int_bool, tup_list, lst_tup, lst_list, len_str, len_list, len_tup, seq_list, seq_tup, seq_str, rng1_int, rng2_int, sl_list, sl_tup, sl_str, rev_list, rev_tup, upper_str, List.set_cons_zero, List.set_cons_succ, setAll, List.length_cons, List.length_nil, Bool.false_eq_true, if_true, if_false, ite_self, eq_self, Bool.not_true, Bool.not_false, line, Nat.reduceLeDiff, Nat.reduceLT, Nat.reduceAdd, Int.reduceLT, Int.reduceLE, true_and, and_true, ixt0, ixt1, ixt2, ixt3, ixl0, ixl1, ixl2, ixl3]
  cases w with
  | tup hl hx =>
    rename_i ns
    simp [isiB, tyN, wp_ok, op_some, op_none, bp_bool, ip_int, lp_list, tp_tup, slot_0, slot_s, WP_cB, wp_slot, wp_lit, wp_c1, wp_c2, wp_nil, wp_cons, wp_cN, wp_and, wp_or, wp_not, wp_if, wp_tup, wp_lst, wp_chain, wp_isi, wp_part0, wp_part, wp_sl, wp_call, wp_callB, wp_get, wp_idx, dc_dict, wp_seq, wp_src, wf_next, wf_brk, wf_cnt, wf_retN, wf_seq, wf_ret, wf_drop, wf_asg, wf_asgT, wf_par, wf_if, wf_app, wf_setI, tg_name, tg_tup, add_int, add_str, add_list, add_tup, sub_int, mul_int, mod_int, fdiv_int, pow_int, lt_int, le_int, gt_int, ge_int, eq_int, eq_str, ne_int, ne_str, neg_int, abs_int, int_int, int_bool, tup_list, lst_tup, lst_list, len_str, len_list, len_tup, seq_list, seq_tup, seq_str, rng1_int, rng2_int, sl_list, sl_tup, sl_str, rev_list, rev_tup, upper_str, List.set_cons_zero, List.set_cons_succ, setAll, List.length_cons, List.length_nil, Bool.false_eq_true, if_true, if_false, ite_self, eq_self, Bool.not_true, Bool.not_false, line, Nat.reduceLeDiff, Nat.reduceLT, Nat.reduceAdd, Int.reduceLT, Int.reduceLE, true_and, and_true, ixt0, ixt1, ixt2, ixt3, ixl0, ixl1, ixl2, ixl3]
    refine wp_compM (fun d => .bool (nmB d)) ?_
    simp only [wp_ok, op_some, op_none, bp_bool, ip_int, lp_list, tp_tup, slot_0, slot_s, WP_cB, wp_slot, wp_lit, wp_c1, wp_c2, wp_nil, wp_cons, wp_cN, wp_and, wp_or, wp_not, wp_if, wp_tup, wp_lst, wp_chain, wp_isi, wp_part0, wp_part, wp_sl, wp_call, wp_callB, wp_get, wp_idx, dc_dict, wp_seq, wp_src, wf_next, wf_brk, wf_cnt, wf_retN, wf_seq, wf_ret, wf_drop, wf_asg, wf_asgT, wf_par, wf_if, wf_app, wf_setI, tg_name, tg_tup, add_int, add_str, add_list, add_tup, sub_int, mul_int, mod_int, fdiv_int, pow_int, lt_int, le_int, gt_int, ge_int, eq_int, eq_str, ne_int, ne_str, neg_int, abs_int, int_int, int_bool, tup_list, lst_tup, lst_list, len_str, len_list, len_tup, seq_list, seq_tup, seq_str, rng1_int, rng2_int, sl_list, sl_tup, sl_str, rev_list, rev_tup, upper_str, List.set_cons_zero, List.set_cons_succ, setAll, List.length_cons, List.length_nil, Bool.false_eq_true, if_true, if_false, ite_self, eq_self, Bool.not_true, Bool.not_false, line, Nat.reduceLeDiff, Nat.reduceLT, Nat.reduceAdd, Int.reduceLT, Int.reduceLE, true_and, and_true, ixt0, ixt1, ixt2, ixt3, ixl0, ixl1, ixl2, ixl3]
    refine ⟨by omega, fun d hd => ?_, ?_⟩
    · rw [is_name_g (n + 1) d (hx d hd), wp_ok]
    rw [all_map]
    simp only [bp_bool, wp_ok, op_some, op_none, bp_bool, ip_int, lp_list, tp_tup, slot_0, slot_s, WP_cB, wp_slot, wp_lit, wp_c1, wp_c2, wp_nil, wp_cons, wp_cN, wp_and, wp_or, wp_not, wp_if, wp_tup, wp_lst, wp_chain, wp_isi, wp_part0, wp_part, wp_sl, wp_call, wp_callB, wp_get, wp_idx, dc_dict, wp_seq, wp_src, wf_next, wf_brk, wf_cnt, wf_retN, wf_seq, wf_ret, wf_drop, wf_asg, wf_asgT, wf_par, wf_if, wf_app, wf_setI, tg_name, tg_tup, add_int, add_str, add_list, add_tup, sub_int, mul_int, mod_int, fdiv_int, pow_int, lt_int, le_int, gt_int, ge_int, eq_int, eq_str, ne_int, ne_str, neg_int, abs_int, int_int, int_bool, tup_list, lst_tup, lst_list, len_str, len_list, len_tup, seq_list, seq_tup, seq_str, rng1_int, rng2_int, sl_list, sl_tup, sl_str, rev_list, rev_tup, upper_str, List.set_cons_zero, List.set_cons_succ, setAll, List.length_cons, List.length_nil, Bool.false_eq_true, if_true, if_false, ite_self, eq_self, Bool.not_true, Bool.not_false, line, Nat.reduceLeDiff, Nat.reduceLT, Nat.reduceAdd, Int.reduceLT, Int.reduceLE, true_and, and_true, ixt0, ixt1, ixt2, ixt3, ixl0, ixl1, ixl2, ixl3]
    cases he : ns.all nmB with
    | false =>
      simp [namesB]
      intro h
      rw [List.all_eq_true.mpr h] at he
      cases he
    | true =>
      have r := rows_names he (by omega)
      rw [if_pos rfl, rising_all r (by omega) (.tuple ns) (.inr rfl) (n + 1)]
      simp [namesB, he, wp_ok, op_some, op_none, bp_bool, ip_int, lp_list, tp_tup, slot_0, slot_s, WP_cB, wp_slot, wp_lit, wp_c1, wp_c2, wp_nil, wp_cons, wp_cN, wp_and, wp_or, wp_not, wp_if, wp_tup, wp_lst, wp_chain, wp_isi, wp_part0, wp_part, wp_sl, wp_call, wp_callB, wp_get, wp_idx, dc_dict, wp_seq, wp_src, wf_next, wf_brk, wf_cnt, wf_retN, wf_seq, wf_ret, wf_drop, wf_asg, wf_asgT, wf_par, wf_if, wf_app, wf_setI, tg_name, tg_tup, add_int, add_str, add_list, add_tup, sub_int, mul_int, mod_int, fdiv_int, pow_int, lt_int, le_int, gt_int, ge_int, eq_int, eq_str, ne_int, ne_str, neg_int, abs_int, int_int, int_bool, tup_list, lst_tup, lst_list, len_str, len_list, len_tup, seq_list, seq_tup, seq_str, rng1_int, rng2_int, sl_list, sl_tup, sl_str, rev_list, rev_tup, upper_str, List.set_cons_zero, List.set_cons_succ, setAll, List.length_cons, List.length_nil, Bool.false_eq_true, if_true, if_false, ite_self, eq_self, Bool.not_true, Bool.not_false, line, Nat.reduceLeDiff, Nat.reduceLT, Nat.reduceAdd, Int.reduceLT, Int.reduceLE, true_and, and_true, ixt0, ixt1, ixt2, ixt3, ixl0, ixl1, ixl2, ixl3]
  | _ => simp [isiB, tyN, namesB, wp_ok, op_some, op_none, bp_bool, ip_int, lp_list, tp_tup, slot_0, slot_s, WP_cB, wp_slot, wp_lit, wp_c1, wp_c2, wp_nil, wp_cons, wp_cN, wp_and, wp_or, wp_not, wp_if, wp_tup, wp_lst, wp_chain, wp_isi, wp_part0, wp_part, wp_sl, wp_call, wp_callB, wp_get, wp_idx, dc_dict, wp_seq, wp_src, wf_next, wf_brk, wf_cnt, wf_retN, wf_seq, wf_ret, wf_drop, wf_asg, wf_asgT, wf_par, wf_if, wf_app, wf_setI, tg_name, tg_tup, add_int, add_str, add_list, add_tup, sub_int, mul_int, mod_int, fdiv_int, pow_int, lt_int, le_int, gt_int, ge_int, eq_int, eq_str, ne_int, ne_str, neg_int, abs_int, int_int, int_bool, tup_list, lst_tup, lst_list, len_str, len_list, len_tup, seq_list, seq_tup, seq_str, rng1_int, rng2_int, sl_list, sl_tup, sl_str, rev_list, rev_tup, upper_str, List.set_cons_zero, List.set_cons_succ, setAll, List.length_cons, List.length_nil, Bool.false_eq_true, if_true, if_false, ite_self, eq_self, Bool.not_true, Bool.not_false, line, Nat.reduceLeDiff, Nat.reduceLT, Nat.reduceAdd, Int.reduceLT, Int.reduceLE, true_and, and_true, ixt0, ixt1, ixt2, ixt3, ixl0, ixl1, ixl2, ixl3]
theorem in_names {ns : List D} (h : ns.all nmB = true) (hl : ns.length ≤ 60) (z : Str) (hz : nameB z = true) (Q : D → Prop) : OP (inD (.str z) (.tuple ns)) Q = Q (.bool (inN ns (.str z))) := by
  have r := rows_names h (by omega)
  have s1 : SeqAt.shaped (.str z) = true := shaped_str (real_name hz)
  have s2 : SeqAt.shaped (.tuple ns) = true := (Lay.tup r.lay).shaped (by omega)
  have e : inB (.str z) (.tuple ns) = some (inN ns (.str z)) := by
    show (if SeqAt.shaped (.str z) = true ∧ SeqAt.shaped (.tuple ns) = true then some (ns.any fun e => PyData.eqv e (.str z)) else none) = _
    rw [if_pos ⟨s1, s2⟩]
    rfl
  unfold inD
  rw [e]
  rfl
def reasonsB (ns : List D) : D → Bool
  | .tuple rs => rs.all reasonB && (rs.all (endsR ns) && adjD (rs.map ngD))
  | _ => false
def barsB (ns : List D) : D → Bool
  | .tuple bs => bs.all barB && (bs.all (endsB ns) && adjD bs)
  | _ => false
def groundB : D → Bool
  | .tuple [a, b, c] => namesB a && (match a with
    | .tuple ns => reasonsB ns b && barsB ns c
    | _ => false)
  | _ => false
theorem cut4 (a b c d : D) : cutD [a, b, c, d] (some 1) none = [b, c, d] := cutD_from _ 1 (by simp)
theorem reasons_g (n : Nat) (d : D) (w : Wg d) (ns : List D) (hn : ns.all nmB = true) (hl : ns.length ≤ 60) : evF T G (n + 4) 8 [d, .tuple ns] = .ok (.bool (reasonsB ns d)) := by
  refine WP.ok ?_
  rw [e8]
  refine wp_run rfl ?_
  simp only [bd8, startE, List.map, List.replicate, List.append, List.cons_append, List.nil_append, wp_ok, op_some, op_none, bp_bool, ip_int, lp_list, tp_tup, slot_0, slot_s, WP_cB, wp_slot, wp_lit, wp_c1, wp_c2, wp_nil, wp_cons, wp_cN, wp_and, wp_or, wp_not, wp_if, wp_tup, wp_lst, wp_chain, wp_isi, wp_part0, wp_part, wp_sl, wp_call, wp_callB, wp_get, wp_idx, dc_dict, wp_seq, wp_src, wf_next, wf_brk, wf_cnt, wf_retN, wf_seq, wf_ret, wf_drop, wf_asg, wf_asgT, wf_par, wf_if, wf_app, wf_setI, tg_name, tg_tup, add_int, add_str, add_list, add_tup, sub_int, mul_int, mod_int, fdiv_int, pow_int, lt_int, le_int, gt_int, ge_int, eq_int, eq_str, ne_int, ne_str, neg_int, abs_int, int_int, int_bool, tup_list, lst_tup, lst_list, len_str, len_list, len_tup, seq_list, seq_tup, seq_str, rng1_int, rng2_int, sl_list, sl_tup, sl_str, rev_list, rev_tup, upper_str, List.set_cons_zero, List.set_cons_succ, setAll, List.length_cons, List.length_nil, Bool.false_eq_true, if_true, if_false, ite_self, eq_self, Bool.not_true, Bool.not_false, line, Nat.reduceLeDiff, Nat.reduceLT, Nat.reduceAdd, Int.reduceLT, Int.reduceLE, true_and, and_true, ixt0, ixt1, ixt2, ixt3, ixl0, ixl1, ixl2, ixl3]
  cases w with
  | tup hl2 hx =>
    rename_i rs
    simp [isiB, tyN, wp_ok, op_some, op_none, bp_bool, ip_int, lp_list, tp_tup, slot_0, slot_s, WP_cB, wp_slot, wp_lit, wp_c1, wp_c2, wp_nil, wp_cons, wp_cN, wp_and, wp_or, wp_not, wp_if, wp_tup, wp_lst, wp_chain, wp_isi, wp_part0, wp_part, wp_sl, wp_call, wp_callB, wp_get, wp_idx, dc_dict, wp_seq, wp_src, wf_next, wf_brk, wf_cnt, wf_retN, wf_seq, wf_ret, wf_drop, wf_asg, wf_asgT, wf_par, wf_if, wf_app, wf_setI, tg_name, tg_tup, add_int, add_str, add_list, add_tup, sub_int, mul_int, mod_int, fdiv_int, pow_int, lt_int, le_int, gt_int, ge_int, eq_int, eq_str, ne_int, ne_str, neg_int, abs_int, int_int, int_bool, tup_list, lst_tup, lst_list, len_str, len_list, len_tup, seq_list, seq_tup, seq_str, rng1_int, rng2_int, sl_list, sl_tup, sl_str, rev_list, rev_tup, upper_str, List.set_cons_zero, List.set_cons_succ, setAll, List.length_cons, List.length_nil, Bool.false_eq_true, if_true, if_false, ite_self, eq_self, Bool.not_true, Bool.not_false, line, Nat.reduceLeDiff, Nat.reduceLT, Nat.reduceAdd, Int.reduceLT, Int.reduceLE, true_and, and_true, ixt0, ixt1, ixt2, ixt3, ixl0, ixl1, ixl2, ixl3]
    refine wp_compM (fun d => .bool (reasonB d)) ?_
    simp only [wp_ok, op_some, op_none, bp_bool, ip_int, lp_list, tp_tup, slot_0, slot_s, WP_cB, wp_slot, wp_lit, wp_c1, wp_c2, wp_nil, wp_cons, wp_cN, wp_and, wp_or, wp_not, wp_if, wp_tup, wp_lst, wp_chain, wp_isi, wp_part0, wp_part, wp_sl, wp_call, wp_callB, wp_get, wp_idx, dc_dict, wp_seq, wp_src, wf_next, wf_brk, wf_cnt, wf_retN, wf_seq, wf_ret, wf_drop, wf_asg, wf_asgT, wf_par, wf_if, wf_app, wf_setI, tg_name, tg_tup, add_int, add_str, add_list, add_tup, sub_int, mul_int, mod_int, fdiv_int, pow_int, lt_int, le_int, gt_int, ge_int, eq_int, eq_str, ne_int, ne_str, neg_int, abs_int, int_int, int_bool, tup_list, lst_tup, lst_list, len_str, len_list, len_tup, seq_list, seq_tup, seq_str, rng1_int, rng2_int, sl_list, sl_tup, sl_str, rev_list, rev_tup, upper_str, List.set_cons_zero, List.set_cons_succ, setAll, List.length_cons, List.length_nil, Bool.false_eq_true, if_true, if_false, ite_self, eq_self, Bool.not_true, Bool.not_false, line, Nat.reduceLeDiff, Nat.reduceLT, Nat.reduceAdd, Int.reduceLT, Int.reduceLE, true_and, and_true, ixt0, ixt1, ixt2, ixt3, ixl0, ixl1, ixl2, ixl3]
    refine ⟨by omega, fun d hd => ?_, ?_⟩
    · rw [reason_g n d (hx d hd), wp_ok]
    rw [all_map]
    simp only [bp_bool, wp_ok, op_some, op_none, bp_bool, ip_int, lp_list, tp_tup, slot_0, slot_s, WP_cB, wp_slot, wp_lit, wp_c1, wp_c2, wp_nil, wp_cons, wp_cN, wp_and, wp_or, wp_not, wp_if, wp_tup, wp_lst, wp_chain, wp_isi, wp_part0, wp_part, wp_sl, wp_call, wp_callB, wp_get, wp_idx, dc_dict, wp_seq, wp_src, wf_next, wf_brk, wf_cnt, wf_retN, wf_seq, wf_ret, wf_drop, wf_asg, wf_asgT, wf_par, wf_if, wf_app, wf_setI, tg_name, tg_tup, add_int, add_str, add_list, add_tup, sub_int, mul_int, mod_int, fdiv_int, pow_int, lt_int, le_int, gt_int, ge_int, eq_int, eq_str, ne_int, ne_str, neg_int, abs_int, int_int, int_bool, tup_list, lst_tup, lst_list, len_str, len_list, len_tup, seq_list, seq_tup, seq_str, rng1_int, rng2_int, sl_list, sl_tup, sl_str, rev_list, rev_tup, upper_str, List.set_cons_zero, List.set_cons_succ, setAll, List.length_cons, List.length_nil, Bool.false_eq_true, if_true, if_false, ite_self, eq_self, Bool.not_true, Bool.not_false, line, Nat.reduceLeDiff, Nat.reduceLT, Nat.reduceAdd, Int.reduceLT, Int.reduceLE, true_and, and_true, ixt0, ixt1, ixt2, ixt3, ixl0, ixl1, ixl2, ixl3]
    cases he : rs.all reasonB with
    | false =>
      simp [reasonsB]
      intro h
      rw [List.all_eq_true.mpr h] at he
      cases he
    | true =>
      simp only [wp_ok, op_some, op_none, bp_bool, ip_int, lp_list, tp_tup, slot_0, slot_s, WP_cB, wp_slot, wp_lit, wp_c1, wp_c2, wp_nil, wp_cons, wp_cN, wp_and, wp_or, wp_not, wp_if, wp_tup, wp_lst, wp_chain, wp_isi, wp_part0, wp_part, wp_sl, wp_call, wp_callB, wp_get, wp_idx, dc_dict, wp_seq, wp_src, wf_next, wf_brk, wf_cnt, wf_retN, wf_seq, wf_ret, wf_drop, wf_asg, wf_asgT, wf_par, wf_if, wf_app, wf_setI, tg_name, tg_tup, add_int, add_str, add_list, add_tup, sub_int, mul_int, mod_int, fdiv_int, pow_int, lt_int, le_int, gt_int, ge_int, eq_int, eq_str, ne_int, ne_str, neg_int, abs_int, int_int, int_bool, tup_list, lst_tup, lst_list, len_str, len_list, len_tup, seq_list, seq_tup, seq_str, rng1_int, rng2_int, sl_list, sl_tup, sl_str, rev_list, rev_tup, upper_str, List.set_cons_zero, List.set_cons_succ, setAll, List.length_cons, List.length_nil, Bool.false_eq_true, if_true, if_false, ite_self, eq_self, Bool.not_true, Bool.not_false, line, Nat.reduceLeDiff, Nat.reduceLT, Nat.reduceAdd, Int.reduceLT, Int.reduceLE, true_and, and_true, ixt0, ixt1, ixt2, ixt3, ixl0, ixl1, ixl2, ixl3]
      have shape := fun d hd => reason_shape (List.all_eq_true.mp he d hd)
      refine wp_compM (fun d => .bool (endsR ns d)) ?_
      simp only [wp_ok, op_some, op_none, bp_bool, ip_int, lp_list, tp_tup, slot_0, slot_s, WP_cB, wp_slot, wp_lit, wp_c1, wp_c2, wp_nil, wp_cons, wp_cN, wp_and, wp_or, wp_not, wp_if, wp_tup, wp_lst, wp_chain, wp_isi, wp_part0, wp_part, wp_sl, wp_call, wp_callB, wp_get, wp_idx, dc_dict, wp_seq, wp_src, wf_next, wf_brk, wf_cnt, wf_retN, wf_seq, wf_ret, wf_drop, wf_asg, wf_asgT, wf_par, wf_if, wf_app, wf_setI, tg_name, tg_tup, add_int, add_str, add_list, add_tup, sub_int, mul_int, mod_int, fdiv_int, pow_int, lt_int, le_int, gt_int, ge_int, eq_int, eq_str, ne_int, ne_str, neg_int, abs_int, int_int, int_bool, tup_list, lst_tup, lst_list, len_str, len_list, len_tup, seq_list, seq_tup, seq_str, rng1_int, rng2_int, sl_list, sl_tup, sl_str, rev_list, rev_tup, upper_str, List.set_cons_zero, List.set_cons_succ, setAll, List.length_cons, List.length_nil, Bool.false_eq_true, if_true, if_false, ite_self, eq_self, Bool.not_true, Bool.not_false, line, Nat.reduceLeDiff, Nat.reduceLT, Nat.reduceAdd, Int.reduceLT, Int.reduceLE, true_and, and_true, ixt0, ixt1, ixt2, ixt3, ixl0, ixl1, ixl2, ixl3]
      refine ⟨by omega, fun d hd => ?_, ?_⟩
      · obtain ⟨w, x, y, k, rfl, _, _, hx1, hy1, _⟩ := shape d hd
        simp only [wp_ok, op_some, op_none, bp_bool, ip_int, lp_list, tp_tup, slot_0, slot_s, WP_cB, wp_slot, wp_lit, wp_c1, wp_c2, wp_nil, wp_cons, wp_cN, wp_and, wp_or, wp_not, wp_if, wp_tup, wp_lst, wp_chain, wp_isi, wp_part0, wp_part, wp_sl, wp_call, wp_callB, wp_get, wp_idx, dc_dict, wp_seq, wp_src, wf_next, wf_brk, wf_cnt, wf_retN, wf_seq, wf_ret, wf_drop, wf_asg, wf_asgT, wf_par, wf_if, wf_app, wf_setI, tg_name, tg_tup, add_int, add_str, add_list, add_tup, sub_int, mul_int, mod_int, fdiv_int, pow_int, lt_int, le_int, gt_int, ge_int, eq_int, eq_str, ne_int, ne_str, neg_int, abs_int, int_int, int_bool, tup_list, lst_tup, lst_list, len_str, len_list, len_tup, seq_list, seq_tup, seq_str, rng1_int, rng2_int, sl_list, sl_tup, sl_str, rev_list, rev_tup, upper_str, List.set_cons_zero, List.set_cons_succ, setAll, List.length_cons, List.length_nil, Bool.false_eq_true, if_true, if_false, ite_self, eq_self, Bool.not_true, Bool.not_false, line, Nat.reduceLeDiff, Nat.reduceLT, Nat.reduceAdd, Int.reduceLT, Int.reduceLE, true_and, and_true, ixt0, ixt1, ixt2, ixt3, ixl0, ixl1, ixl2, ixl3, in_names hn hl x hx1, in_names hn hl y hy1]
        cases hin : inN ns (.str x) <;> simp [endsR, hin]
      rw [all_map]
      simp only [bp_bool, wp_ok, op_some, op_none, bp_bool, ip_int, lp_list, tp_tup, slot_0, slot_s, WP_cB, wp_slot, wp_lit, wp_c1, wp_c2, wp_nil, wp_cons, wp_cN, wp_and, wp_or, wp_not, wp_if, wp_tup, wp_lst, wp_chain, wp_isi, wp_part0, wp_part, wp_sl, wp_call, wp_callB, wp_get, wp_idx, dc_dict, wp_seq, wp_src, wf_next, wf_brk, wf_cnt, wf_retN, wf_seq, wf_ret, wf_drop, wf_asg, wf_asgT, wf_par, wf_if, wf_app, wf_setI, tg_name, tg_tup, add_int, add_str, add_list, add_tup, sub_int, mul_int, mod_int, fdiv_int, pow_int, lt_int, le_int, gt_int, ge_int, eq_int, eq_str, ne_int, ne_str, neg_int, abs_int, int_int, int_bool, tup_list, lst_tup, lst_list, len_str, len_list, len_tup, seq_list, seq_tup, seq_str, rng1_int, rng2_int, sl_list, sl_tup, sl_str, rev_list, rev_tup, upper_str, List.set_cons_zero, List.set_cons_succ, setAll, List.length_cons, List.length_nil, Bool.false_eq_true, if_true, if_false, ite_self, eq_self, Bool.not_true, Bool.not_false, line, Nat.reduceLeDiff, Nat.reduceLT, Nat.reduceAdd, Int.reduceLT, Int.reduceLE, true_and, and_true, ixt0, ixt1, ixt2, ixt3, ixl0, ixl1, ixl2, ixl3]
      cases hen : rs.all (endsR ns) with
      | false =>
        simp [reasonsB]
        intro _ h
        rw [List.all_eq_true.mpr h] at hen
        cases hen
      | true =>
        simp only [wp_ok, op_some, op_none, bp_bool, ip_int, lp_list, tp_tup, slot_0, slot_s, WP_cB, wp_slot, wp_lit, wp_c1, wp_c2, wp_nil, wp_cons, wp_cN, wp_and, wp_or, wp_not, wp_if, wp_tup, wp_lst, wp_chain, wp_isi, wp_part0, wp_part, wp_sl, wp_call, wp_callB, wp_get, wp_idx, dc_dict, wp_seq, wp_src, wf_next, wf_brk, wf_cnt, wf_retN, wf_seq, wf_ret, wf_drop, wf_asg, wf_asgT, wf_par, wf_if, wf_app, wf_setI, tg_name, tg_tup, add_int, add_str, add_list, add_tup, sub_int, mul_int, mod_int, fdiv_int, pow_int, lt_int, le_int, gt_int, ge_int, eq_int, eq_str, ne_int, ne_str, neg_int, abs_int, int_int, int_bool, tup_list, lst_tup, lst_list, len_str, len_list, len_tup, seq_list, seq_tup, seq_str, rng1_int, rng2_int, sl_list, sl_tup, sl_str, rev_list, rev_tup, upper_str, List.set_cons_zero, List.set_cons_succ, setAll, List.length_cons, List.length_nil, Bool.false_eq_true, if_true, if_false, ite_self, eq_self, Bool.not_true, Bool.not_false, line, Nat.reduceLeDiff, Nat.reduceLT, Nat.reduceAdd, Int.reduceLT, Int.reduceLE, true_and, and_true, ixt0, ixt1, ixt2, ixt3, ixl0, ixl1, ixl2, ixl3]
        refine wp_compM ngD ?_
        simp only [wp_ok, op_some, op_none, bp_bool, ip_int, lp_list, tp_tup, slot_0, slot_s, WP_cB, wp_slot, wp_lit, wp_c1, wp_c2, wp_nil, wp_cons, wp_cN, wp_and, wp_or, wp_not, wp_if, wp_tup, wp_lst, wp_chain, wp_isi, wp_part0, wp_part, wp_sl, wp_call, wp_callB, wp_get, wp_idx, dc_dict, wp_seq, wp_src, wf_next, wf_brk, wf_cnt, wf_retN, wf_seq, wf_ret, wf_drop, wf_asg, wf_asgT, wf_par, wf_if, wf_app, wf_setI, tg_name, tg_tup, add_int, add_str, add_list, add_tup, sub_int, mul_int, mod_int, fdiv_int, pow_int, lt_int, le_int, gt_int, ge_int, eq_int, eq_str, ne_int, ne_str, neg_int, abs_int, int_int, int_bool, tup_list, lst_tup, lst_list, len_str, len_list, len_tup, seq_list, seq_tup, seq_str, rng1_int, rng2_int, sl_list, sl_tup, sl_str, rev_list, rev_tup, upper_str, List.set_cons_zero, List.set_cons_succ, setAll, List.length_cons, List.length_nil, Bool.false_eq_true, if_true, if_false, ite_self, eq_self, Bool.not_true, Bool.not_false, line, Nat.reduceLeDiff, Nat.reduceLT, Nat.reduceAdd, Int.reduceLT, Int.reduceLE, true_and, and_true, ixt0, ixt1, ixt2, ixt3, ixl0, ixl1, ixl2, ixl3]
        refine ⟨by omega, fun d hd => ?_, ?_⟩
        · obtain ⟨w, x, y, k, rfl, _, _, _, _, _⟩ := shape d hd
          simp only [wp_ok, op_some, op_none, bp_bool, ip_int, lp_list, tp_tup, slot_0, slot_s, WP_cB, wp_slot, wp_lit, wp_c1, wp_c2, wp_nil, wp_cons, wp_cN, wp_and, wp_or, wp_not, wp_if, wp_tup, wp_lst, wp_chain, wp_isi, wp_part0, wp_part, wp_sl, wp_call, wp_callB, wp_get, wp_idx, dc_dict, wp_seq, wp_src, wf_next, wf_brk, wf_cnt, wf_retN, wf_seq, wf_ret, wf_drop, wf_asg, wf_asgT, wf_par, wf_if, wf_app, wf_setI, tg_name, tg_tup, add_int, add_str, add_list, add_tup, sub_int, mul_int, mod_int, fdiv_int, pow_int, lt_int, le_int, gt_int, ge_int, eq_int, eq_str, ne_int, ne_str, neg_int, abs_int, int_int, int_bool, tup_list, lst_tup, lst_list, len_str, len_list, len_tup, seq_list, seq_tup, seq_str, rng1_int, rng2_int, sl_list, sl_tup, sl_str, rev_list, rev_tup, upper_str, List.set_cons_zero, List.set_cons_succ, setAll, List.length_cons, List.length_nil, Bool.false_eq_true, if_true, if_false, ite_self, eq_self, Bool.not_true, Bool.not_false, line, Nat.reduceLeDiff, Nat.reduceLT, Nat.reduceAdd, Int.reduceLT, Int.reduceLE, true_and, and_true, ixt0, ixt1, ixt2, ixt3, ixl0, ixl1, ixl2, ixl3, cut4]
          simp [ngD]
        · rw [rising_all (rows_neg he (by omega)) (by omega) (.list (rs.map ngD)) (.inl rfl) (n + 2)]
          simp [reasonsB, he, hen, wp_ok, op_some, op_none, bp_bool, ip_int, lp_list, tp_tup, slot_0, slot_s, WP_cB, wp_slot, wp_lit, wp_c1, wp_c2, wp_nil, wp_cons, wp_cN, wp_and, wp_or, wp_not, wp_if, wp_tup, wp_lst, wp_chain, wp_isi, wp_part0, wp_part, wp_sl, wp_call, wp_callB, wp_get, wp_idx, dc_dict, wp_seq, wp_src, wf_next, wf_brk, wf_cnt, wf_retN, wf_seq, wf_ret, wf_drop, wf_asg, wf_asgT, wf_par, wf_if, wf_app, wf_setI, tg_name, tg_tup, add_int, add_str, add_list, add_tup, sub_int, mul_int, mod_int, fdiv_int, pow_int, lt_int, le_int, gt_int, ge_int, eq_int, eq_str, ne_int, ne_str, neg_int, abs_int, int_int, int_bool, tup_list, lst_tup, lst_list, len_str, len_list, len_tup, seq_list, seq_tup, seq_str, rng1_int, rng2_int, sl_list, sl_tup, sl_str, rev_list, rev_tup, upper_str, List.set_cons_zero, List.set_cons_succ, setAll, List.length_cons, List.length_nil, Bool.false_eq_true, if_true, if_false, ite_self, eq_self, Bool.not_true, Bool.not_false, line, Nat.reduceLeDiff, Nat.reduceLT, Nat.reduceAdd, Int.reduceLT, Int.reduceLE, true_and, and_true, ixt0, ixt1, ixt2, ixt3, ixl0, ixl1, ixl2, ixl3]
  | _ => simp [isiB, tyN, reasonsB, wp_ok, op_some, op_none, bp_bool, ip_int, lp_list, tp_tup, slot_0, slot_s, WP_cB, wp_slot, wp_lit, wp_c1, wp_c2, wp_nil, wp_cons, wp_cN, wp_and, wp_or, wp_not, wp_if, wp_tup, wp_lst, wp_chain, wp_isi, wp_part0, wp_part, wp_sl, wp_call, wp_callB, wp_get, wp_idx, dc_dict, wp_seq, wp_src, wf_next, wf_brk, wf_cnt, wf_retN, wf_seq, wf_ret, wf_drop, wf_asg, wf_asgT, wf_par, wf_if, wf_app, wf_setI, tg_name, tg_tup, add_int, add_str, add_list, add_tup, sub_int, mul_int, mod_int, fdiv_int, pow_int, lt_int, le_int, gt_int, ge_int, eq_int, eq_str, ne_int, ne_str, neg_int, abs_int, int_int, int_bool, tup_list, lst_tup, lst_list, len_str, len_list, len_tup, seq_list, seq_tup, seq_str, rng1_int, rng2_int, sl_list, sl_tup, sl_str, rev_list, rev_tup, upper_str, List.set_cons_zero, List.set_cons_succ, setAll, List.length_cons, List.length_nil, Bool.false_eq_true, if_true, if_false, ite_self, eq_self, Bool.not_true, Bool.not_false, line, Nat.reduceLeDiff, Nat.reduceLT, Nat.reduceAdd, Int.reduceLT, Int.reduceLE, true_and, and_true, ixt0, ixt1, ixt2, ixt3, ixl0, ixl1, ixl2, ixl3]
theorem bars_g (n : Nat) (d : D) (w : Wg d) (ns : List D) (hn : ns.all nmB = true) (hl : ns.length ≤ 60) : evF T G (n + 4) 9 [d, .tuple ns] = .ok (.bool (barsB ns d)) := by
  refine WP.ok ?_
  rw [e9]
  refine wp_run rfl ?_
  simp only [bd9, startE, List.map, List.replicate, List.append, List.cons_append, List.nil_append, wp_ok, op_some, op_none, bp_bool, ip_int, lp_list, tp_tup, slot_0, slot_s, WP_cB, wp_slot, wp_lit, wp_c1, wp_c2, wp_nil, wp_cons, wp_cN, wp_and, wp_or, wp_not, wp_if, wp_tup, wp_lst, wp_chain, wp_isi, wp_part0, wp_part, wp_sl, wp_call, wp_callB, wp_get, wp_idx, dc_dict, wp_seq, wp_src, wf_next, wf_brk, wf_cnt, wf_retN, wf_seq, wf_ret, wf_drop, wf_asg, wf_asgT, wf_par, wf_if, wf_app, wf_setI, tg_name, tg_tup, add_int, add_str, add_list, add_tup, sub_int, mul_int, mod_int, fdiv_int, pow_int, lt_int, le_int, gt_int, ge_int, eq_int, eq_str, ne_int, ne_str, neg_int, abs_int, int_int, int_bool, tup_list, lst_tup, lst_list, len_str, len_list, len_tup, seq_list, seq_tup, seq_str, rng1_int, rng2_int, sl_list, sl_tup, sl_str, rev_list, rev_tup, upper_str, List.set_cons_zero, List.set_cons_succ, setAll, List.length_cons, List.length_nil, Bool.false_eq_true, if_true, if_false, ite_self, eq_self, Bool.not_true, Bool.not_false, line, Nat.reduceLeDiff, Nat.reduceLT, Nat.reduceAdd, Int.reduceLT, Int.reduceLE, true_and, and_true, ixt0, ixt1, ixt2, ixt3, ixl0, ixl1, ixl2, ixl3]
  cases w with
  | tup hl2 hx =>
    rename_i bs
    simp [isiB, tyN, wp_ok, op_some, op_none, bp_bool, ip_int, lp_list, tp_tup, slot_0, slot_s, WP_cB, wp_slot, wp_lit, wp_c1, wp_c2, wp_nil, wp_cons, wp_cN, wp_and, wp_or, wp_not, wp_if, wp_tup, wp_lst, wp_chain, wp_isi, wp_part0, wp_part, wp_sl, wp_call, wp_callB, wp_get, wp_idx, dc_dict, wp_seq, wp_src, wf_next, wf_brk, wf_cnt, wf_retN, wf_seq, wf_ret, wf_drop, wf_asg, wf_asgT, wf_par, wf_if, wf_app, wf_setI, tg_name, tg_tup, add_int, add_str, add_list, add_tup, sub_int, mul_int, mod_int, fdiv_int, pow_int, lt_int, le_int, gt_int, ge_int, eq_int, eq_str, ne_int, ne_str, neg_int, abs_int, int_int, int_bool, tup_list, lst_tup, lst_list, len_str, len_list, len_tup, seq_list, seq_tup, seq_str, rng1_int, rng2_int, sl_list, sl_tup, sl_str, rev_list, rev_tup, upper_str, List.set_cons_zero, List.set_cons_succ, setAll, List.length_cons, List.length_nil, Bool.false_eq_true, if_true, if_false, ite_self, eq_self, Bool.not_true, Bool.not_false, line, Nat.reduceLeDiff, Nat.reduceLT, Nat.reduceAdd, Int.reduceLT, Int.reduceLE, true_and, and_true, ixt0, ixt1, ixt2, ixt3, ixl0, ixl1, ixl2, ixl3]
    refine wp_compM (fun d => .bool (barB d)) ?_
    simp only [wp_ok, op_some, op_none, bp_bool, ip_int, lp_list, tp_tup, slot_0, slot_s, WP_cB, wp_slot, wp_lit, wp_c1, wp_c2, wp_nil, wp_cons, wp_cN, wp_and, wp_or, wp_not, wp_if, wp_tup, wp_lst, wp_chain, wp_isi, wp_part0, wp_part, wp_sl, wp_call, wp_callB, wp_get, wp_idx, dc_dict, wp_seq, wp_src, wf_next, wf_brk, wf_cnt, wf_retN, wf_seq, wf_ret, wf_drop, wf_asg, wf_asgT, wf_par, wf_if, wf_app, wf_setI, tg_name, tg_tup, add_int, add_str, add_list, add_tup, sub_int, mul_int, mod_int, fdiv_int, pow_int, lt_int, le_int, gt_int, ge_int, eq_int, eq_str, ne_int, ne_str, neg_int, abs_int, int_int, int_bool, tup_list, lst_tup, lst_list, len_str, len_list, len_tup, seq_list, seq_tup, seq_str, rng1_int, rng2_int, sl_list, sl_tup, sl_str, rev_list, rev_tup, upper_str, List.set_cons_zero, List.set_cons_succ, setAll, List.length_cons, List.length_nil, Bool.false_eq_true, if_true, if_false, ite_self, eq_self, Bool.not_true, Bool.not_false, line, Nat.reduceLeDiff, Nat.reduceLT, Nat.reduceAdd, Int.reduceLT, Int.reduceLE, true_and, and_true, ixt0, ixt1, ixt2, ixt3, ixl0, ixl1, ixl2, ixl3]
    refine ⟨by omega, fun d hd => ?_, ?_⟩
    · rw [bar_g n d (hx d hd), wp_ok]
    rw [all_map]
    simp only [bp_bool, wp_ok, op_some, op_none, bp_bool, ip_int, lp_list, tp_tup, slot_0, slot_s, WP_cB, wp_slot, wp_lit, wp_c1, wp_c2, wp_nil, wp_cons, wp_cN, wp_and, wp_or, wp_not, wp_if, wp_tup, wp_lst, wp_chain, wp_isi, wp_part0, wp_part, wp_sl, wp_call, wp_callB, wp_get, wp_idx, dc_dict, wp_seq, wp_src, wf_next, wf_brk, wf_cnt, wf_retN, wf_seq, wf_ret, wf_drop, wf_asg, wf_asgT, wf_par, wf_if, wf_app, wf_setI, tg_name, tg_tup, add_int, add_str, add_list, add_tup, sub_int, mul_int, mod_int, fdiv_int, pow_int, lt_int, le_int, gt_int, ge_int, eq_int, eq_str, ne_int, ne_str, neg_int, abs_int, int_int, int_bool, tup_list, lst_tup, lst_list, len_str, len_list, len_tup, seq_list, seq_tup, seq_str, rng1_int, rng2_int, sl_list, sl_tup, sl_str, rev_list, rev_tup, upper_str, List.set_cons_zero, List.set_cons_succ, setAll, List.length_cons, List.length_nil, Bool.false_eq_true, if_true, if_false, ite_self, eq_self, Bool.not_true, Bool.not_false, line, Nat.reduceLeDiff, Nat.reduceLT, Nat.reduceAdd, Int.reduceLT, Int.reduceLE, true_and, and_true, ixt0, ixt1, ixt2, ixt3, ixl0, ixl1, ixl2, ixl3]
    cases he : bs.all barB with
    | false =>
      simp [barsB]
      intro h
      rw [List.all_eq_true.mpr h] at he
      cases he
    | true =>
      simp only [wp_ok, op_some, op_none, bp_bool, ip_int, lp_list, tp_tup, slot_0, slot_s, WP_cB, wp_slot, wp_lit, wp_c1, wp_c2, wp_nil, wp_cons, wp_cN, wp_and, wp_or, wp_not, wp_if, wp_tup, wp_lst, wp_chain, wp_isi, wp_part0, wp_part, wp_sl, wp_call, wp_callB, wp_get, wp_idx, dc_dict, wp_seq, wp_src, wf_next, wf_brk, wf_cnt, wf_retN, wf_seq, wf_ret, wf_drop, wf_asg, wf_asgT, wf_par, wf_if, wf_app, wf_setI, tg_name, tg_tup, add_int, add_str, add_list, add_tup, sub_int, mul_int, mod_int, fdiv_int, pow_int, lt_int, le_int, gt_int, ge_int, eq_int, eq_str, ne_int, ne_str, neg_int, abs_int, int_int, int_bool, tup_list, lst_tup, lst_list, len_str, len_list, len_tup, seq_list, seq_tup, seq_str, rng1_int, rng2_int, sl_list, sl_tup, sl_str, rev_list, rev_tup, upper_str, List.set_cons_zero, List.set_cons_succ, setAll, List.length_cons, List.length_nil, Bool.false_eq_true, if_true, if_false, ite_self, eq_self, Bool.not_true, Bool.not_false, line, Nat.reduceLeDiff, Nat.reduceLT, Nat.reduceAdd, Int.reduceLT, Int.reduceLE, true_and, and_true, ixt0, ixt1, ixt2, ixt3, ixl0, ixl1, ixl2, ixl3]
      have shape := fun d hd => bar_shape (List.all_eq_true.mp he d hd)
      refine wp_compM (fun d => .bool (endsB ns d)) ?_
      simp only [wp_ok, op_some, op_none, bp_bool, ip_int, lp_list, tp_tup, slot_0, slot_s, WP_cB, wp_slot, wp_lit, wp_c1, wp_c2, wp_nil, wp_cons, wp_cN, wp_and, wp_or, wp_not, wp_if, wp_tup, wp_lst, wp_chain, wp_isi, wp_part0, wp_part, wp_sl, wp_call, wp_callB, wp_get, wp_idx, dc_dict, wp_seq, wp_src, wf_next, wf_brk, wf_cnt, wf_retN, wf_seq, wf_ret, wf_drop, wf_asg, wf_asgT, wf_par, wf_if, wf_app, wf_setI, tg_name, tg_tup, add_int, add_str, add_list, add_tup, sub_int, mul_int, mod_int, fdiv_int, pow_int, lt_int, le_int, gt_int, ge_int, eq_int, eq_str, ne_int, ne_str, neg_int, abs_int, int_int, int_bool, tup_list, lst_tup, lst_list, len_str, len_list, len_tup, seq_list, seq_tup, seq_str, rng1_int, rng2_int, sl_list, sl_tup, sl_str, rev_list, rev_tup, upper_str, List.set_cons_zero, List.set_cons_succ, setAll, List.length_cons, List.length_nil, Bool.false_eq_true, if_true, if_false, ite_self, eq_self, Bool.not_true, Bool.not_false, line, Nat.reduceLeDiff, Nat.reduceLT, Nat.reduceAdd, Int.reduceLT, Int.reduceLE, true_and, and_true, ixt0, ixt1, ixt2, ixt3, ixl0, ixl1, ixl2, ixl3]
      refine ⟨by omega, fun d hd => ?_, ?_⟩
      · obtain ⟨x, y, k, rfl, hx1, hy1, _⟩ := shape d hd
        simp only [wp_ok, op_some, op_none, bp_bool, ip_int, lp_list, tp_tup, slot_0, slot_s, WP_cB, wp_slot, wp_lit, wp_c1, wp_c2, wp_nil, wp_cons, wp_cN, wp_and, wp_or, wp_not, wp_if, wp_tup, wp_lst, wp_chain, wp_isi, wp_part0, wp_part, wp_sl, wp_call, wp_callB, wp_get, wp_idx, dc_dict, wp_seq, wp_src, wf_next, wf_brk, wf_cnt, wf_retN, wf_seq, wf_ret, wf_drop, wf_asg, wf_asgT, wf_par, wf_if, wf_app, wf_setI, tg_name, tg_tup, add_int, add_str, add_list, add_tup, sub_int, mul_int, mod_int, fdiv_int, pow_int, lt_int, le_int, gt_int, ge_int, eq_int, eq_str, ne_int, ne_str, neg_int, abs_int, int_int, int_bool, tup_list, lst_tup, lst_list, len_str, len_list, len_tup, seq_list, seq_tup, seq_str, rng1_int, rng2_int, sl_list, sl_tup, sl_str, rev_list, rev_tup, upper_str, List.set_cons_zero, List.set_cons_succ, setAll, List.length_cons, List.length_nil, Bool.false_eq_true, if_true, if_false, ite_self, eq_self, Bool.not_true, Bool.not_false, line, Nat.reduceLeDiff, Nat.reduceLT, Nat.reduceAdd, Int.reduceLT, Int.reduceLE, true_and, and_true, ixt0, ixt1, ixt2, ixt3, ixl0, ixl1, ixl2, ixl3, in_names hn hl x hx1, in_names hn hl y hy1]
        cases hin : inN ns (.str x) <;> simp [endsB, hin]
      rw [all_map]
      simp only [bp_bool, wp_ok, op_some, op_none, bp_bool, ip_int, lp_list, tp_tup, slot_0, slot_s, WP_cB, wp_slot, wp_lit, wp_c1, wp_c2, wp_nil, wp_cons, wp_cN, wp_and, wp_or, wp_not, wp_if, wp_tup, wp_lst, wp_chain, wp_isi, wp_part0, wp_part, wp_sl, wp_call, wp_callB, wp_get, wp_idx, dc_dict, wp_seq, wp_src, wf_next, wf_brk, wf_cnt, wf_retN, wf_seq, wf_ret, wf_drop, wf_asg, wf_asgT, wf_par, wf_if, wf_app, wf_setI, tg_name, tg_tup, add_int, add_str, add_list, add_tup, sub_int, mul_int, mod_int, fdiv_int, pow_int, lt_int, le_int, gt_int, ge_int, eq_int, eq_str, ne_int, ne_str, neg_int, abs_int, int_int, int_bool, tup_list, lst_tup, lst_list, len_str, len_list, len_tup, seq_list, seq_tup, seq_str, rng1_int, rng2_int, sl_list, sl_tup, sl_str, rev_list, rev_tup, upper_str, List.set_cons_zero, List.set_cons_succ, setAll, List.length_cons, List.length_nil, Bool.false_eq_true, if_true, if_false, ite_self, eq_self, Bool.not_true, Bool.not_false, line, Nat.reduceLeDiff, Nat.reduceLT, Nat.reduceAdd, Int.reduceLT, Int.reduceLE, true_and, and_true, ixt0, ixt1, ixt2, ixt3, ixl0, ixl1, ixl2, ixl3]
      cases hen : bs.all (endsB ns) with
      | false =>
        simp [barsB]
        intro _ h
        rw [List.all_eq_true.mpr h] at hen
        cases hen
      | true =>
        simp only [wp_ok, op_some, op_none, bp_bool, ip_int, lp_list, tp_tup, slot_0, slot_s, WP_cB, wp_slot, wp_lit, wp_c1, wp_c2, wp_nil, wp_cons, wp_cN, wp_and, wp_or, wp_not, wp_if, wp_tup, wp_lst, wp_chain, wp_isi, wp_part0, wp_part, wp_sl, wp_call, wp_callB, wp_get, wp_idx, dc_dict, wp_seq, wp_src, wf_next, wf_brk, wf_cnt, wf_retN, wf_seq, wf_ret, wf_drop, wf_asg, wf_asgT, wf_par, wf_if, wf_app, wf_setI, tg_name, tg_tup, add_int, add_str, add_list, add_tup, sub_int, mul_int, mod_int, fdiv_int, pow_int, lt_int, le_int, gt_int, ge_int, eq_int, eq_str, ne_int, ne_str, neg_int, abs_int, int_int, int_bool, tup_list, lst_tup, lst_list, len_str, len_list, len_tup, seq_list, seq_tup, seq_str, rng1_int, rng2_int, sl_list, sl_tup, sl_str, rev_list, rev_tup, upper_str, List.set_cons_zero, List.set_cons_succ, setAll, List.length_cons, List.length_nil, Bool.false_eq_true, if_true, if_false, ite_self, eq_self, Bool.not_true, Bool.not_false, line, Nat.reduceLeDiff, Nat.reduceLT, Nat.reduceAdd, Int.reduceLT, Int.reduceLE, true_and, and_true, ixt0, ixt1, ixt2, ixt3, ixl0, ixl1, ixl2, ixl3]
        rw [rising_all (rows_bars he (by omega)) (by omega) (.tuple bs) (.inr rfl) (n + 2)]
        simp [barsB, he, hen, wp_ok, op_some, op_none, bp_bool, ip_int, lp_list, tp_tup, slot_0, slot_s, WP_cB, wp_slot, wp_lit, wp_c1, wp_c2, wp_nil, wp_cons, wp_cN, wp_and, wp_or, wp_not, wp_if, wp_tup, wp_lst, wp_chain, wp_isi, wp_part0, wp_part, wp_sl, wp_call, wp_callB, wp_get, wp_idx, dc_dict, wp_seq, wp_src, wf_next, wf_brk, wf_cnt, wf_retN, wf_seq, wf_ret, wf_drop, wf_asg, wf_asgT, wf_par, wf_if, wf_app, wf_setI, tg_name, tg_tup, add_int, add_str, add_list, add_tup, sub_int, mul_int, mod_int, fdiv_int, pow_int, lt_int, le_int, gt_int, ge_int, eq_int, eq_str, ne_int, ne_str, neg_int, abs_int, int_int, int_bool, tup_list, lst_tup, lst_list, len_str, len_list, len_tup, seq_list, seq_tup, seq_str, rng1_int, rng2_int, sl_list, sl_tup, sl_str, rev_list, rev_tup, upper_str, List.set_cons_zero, List.set_cons_succ, setAll, List.length_cons, List.length_nil, Bool.false_eq_true, if_true, if_false, ite_self, eq_self, Bool.not_true, Bool.not_false, line, Nat.reduceLeDiff, Nat.reduceLT, Nat.reduceAdd, Int.reduceLT, Int.reduceLE, true_and, and_true, ixt0, ixt1, ixt2, ixt3, ixl0, ixl1, ixl2, ixl3]
  | _ => simp [isiB, tyN, barsB, wp_ok, op_some, op_none, bp_bool, ip_int, lp_list, tp_tup, slot_0, slot_s, WP_cB, wp_slot, wp_lit, wp_c1, wp_c2, wp_nil, wp_cons, wp_cN, wp_and, wp_or, wp_not, wp_if, wp_tup, wp_lst, wp_chain, wp_isi, wp_part0, wp_part, wp_sl, wp_call, wp_callB, wp_get, wp_idx, dc_dict, wp_seq, wp_src, wf_next, wf_brk, wf_cnt, wf_retN, wf_seq, wf_ret, wf_drop, wf_asg, wf_asgT, wf_par, wf_if, wf_app, wf_setI, tg_name, tg_tup, add_int, add_str, add_list, add_tup, sub_int, mul_int, mod_int, fdiv_int, pow_int, lt_int, le_int, gt_int, ge_int, eq_int, eq_str, ne_int, ne_str, neg_int, abs_int, int_int, int_bool, tup_list, lst_tup, lst_list, len_str, len_list, len_tup, seq_list, seq_tup, seq_str, rng1_int, rng2_int, sl_list, sl_tup, sl_str, rev_list, rev_tup, upper_str, List.set_cons_zero, List.set_cons_succ, setAll, List.length_cons, List.length_nil, Bool.false_eq_true, if_true, if_false, ite_self, eq_self, Bool.not_true, Bool.not_false, line, Nat.reduceLeDiff, Nat.reduceLT, Nat.reduceAdd, Int.reduceLT, Int.reduceLE, true_and, and_true, ixt0, ixt1, ixt2, ixt3, ixl0, ixl1, ixl2, ixl3]
theorem ground_g (n : Nat) (d : D) (w : Wg d) : evF T G (n + 5) 10 [d] = .ok (.bool (groundB d)) := by
  refine WP.ok ?_
  rw [e10]
  refine wp_run rfl ?_
  simp only [bd10, startE, List.map, List.replicate, List.append, List.cons_append, List.nil_append, wp_ok, op_some, op_none, bp_bool, ip_int, lp_list, tp_tup, slot_0, slot_s, WP_cB, wp_slot, wp_lit, wp_c1, wp_c2, wp_nil, wp_cons, wp_cN, wp_and, wp_or, wp_not, wp_if, wp_tup, wp_lst, wp_chain, wp_isi, wp_part0, wp_part, wp_sl, wp_call, wp_callB, wp_get, wp_idx, dc_dict, wp_seq, wp_src, wf_next, wf_brk, wf_cnt, wf_retN, wf_seq, wf_ret, wf_drop, wf_asg, wf_asgT, wf_par, wf_if, wf_app, wf_setI, tg_name, tg_tup, add_int, add_str, add_list, add_tup, sub_int, mul_int, mod_int, fdiv_int, pow_int, lt_int, le_int, gt_int, ge_int, eq_int, eq_str, ne_int, ne_str, neg_int, abs_int, int_int, int_bool, tup_list, lst_tup, lst_list, len_str, len_list, len_tup, seq_list, seq_tup, seq_str, rng1_int, rng2_int, sl_list, sl_tup, sl_str, rev_list, rev_tup, upper_str, List.set_cons_zero, List.set_cons_succ, setAll, List.length_cons, List.length_nil, Bool.false_eq_true, if_true, if_false, ite_self, eq_self, Bool.not_true, Bool.not_false, line, Nat.reduceLeDiff, Nat.reduceLT, Nat.reduceAdd, Int.reduceLT, Int.reduceLE, true_and, and_true, ixt0, ixt1, ixt2, ixt3, ixl0, ixl1, ixl2, ixl3]
  cases w with
  | tup hl hx =>
    rename_i xs
    rcases xs with _ | ⟨a, _ | ⟨b, _ | ⟨c, _ | ⟨e, r⟩⟩⟩⟩
    · simp [isiB, tyN, groundB, wp_ok, op_some, op_none, bp_bool, ip_int, lp_list, tp_tup, slot_0, slot_s, WP_cB, wp_slot, wp_lit, wp_c1, wp_c2, wp_nil, wp_cons, wp_cN, wp_and, wp_or, wp_not, wp_if, wp_tup, wp_lst, wp_chain, wp_isi, wp_part0, wp_part, wp_sl, wp_call, wp_callB, wp_get, wp_idx, dc_dict, wp_seq, wp_src, wf_next, wf_brk, wf_cnt, wf_retN, wf_seq, wf_ret, wf_drop, wf_asg, wf_asgT, wf_par, wf_if, wf_app, wf_setI, tg_name, tg_tup, add_int, add_str, add_list, add_tup, sub_int, mul_int, mod_int, fdiv_int, pow_int, lt_int, le_int, gt_int, ge_int, eq_int, eq_str, ne_int, ne_str, neg_int, abs_int, int_int, int_bool, tup_list, lst_tup, lst_list, len_str, len_list, len_tup, seq_list, seq_tup, seq_str, rng1_int, rng2_int, sl_list, sl_tup, sl_str, rev_list, rev_tup, upper_str, List.set_cons_zero, List.set_cons_succ, setAll, List.length_cons, List.length_nil, Bool.false_eq_true, if_true, if_false, ite_self, eq_self, Bool.not_true, Bool.not_false, line, Nat.reduceLeDiff, Nat.reduceLT, Nat.reduceAdd, Int.reduceLT, Int.reduceLE, true_and, and_true, ixt0, ixt1, ixt2, ixt3, ixl0, ixl1, ixl2, ixl3]
    · simp [isiB, tyN, groundB, wp_ok, op_some, op_none, bp_bool, ip_int, lp_list, tp_tup, slot_0, slot_s, WP_cB, wp_slot, wp_lit, wp_c1, wp_c2, wp_nil, wp_cons, wp_cN, wp_and, wp_or, wp_not, wp_if, wp_tup, wp_lst, wp_chain, wp_isi, wp_part0, wp_part, wp_sl, wp_call, wp_callB, wp_get, wp_idx, dc_dict, wp_seq, wp_src, wf_next, wf_brk, wf_cnt, wf_retN, wf_seq, wf_ret, wf_drop, wf_asg, wf_asgT, wf_par, wf_if, wf_app, wf_setI, tg_name, tg_tup, add_int, add_str, add_list, add_tup, sub_int, mul_int, mod_int, fdiv_int, pow_int, lt_int, le_int, gt_int, ge_int, eq_int, eq_str, ne_int, ne_str, neg_int, abs_int, int_int, int_bool, tup_list, lst_tup, lst_list, len_str, len_list, len_tup, seq_list, seq_tup, seq_str, rng1_int, rng2_int, sl_list, sl_tup, sl_str, rev_list, rev_tup, upper_str, List.set_cons_zero, List.set_cons_succ, setAll, List.length_cons, List.length_nil, Bool.false_eq_true, if_true, if_false, ite_self, eq_self, Bool.not_true, Bool.not_false, line, Nat.reduceLeDiff, Nat.reduceLT, Nat.reduceAdd, Int.reduceLT, Int.reduceLE, true_and, and_true, ixt0, ixt1, ixt2, ixt3, ixl0, ixl1, ixl2, ixl3]
    · simp [isiB, tyN, groundB, wp_ok, op_some, op_none, bp_bool, ip_int, lp_list, tp_tup, slot_0, slot_s, WP_cB, wp_slot, wp_lit, wp_c1, wp_c2, wp_nil, wp_cons, wp_cN, wp_and, wp_or, wp_not, wp_if, wp_tup, wp_lst, wp_chain, wp_isi, wp_part0, wp_part, wp_sl, wp_call, wp_callB, wp_get, wp_idx, dc_dict, wp_seq, wp_src, wf_next, wf_brk, wf_cnt, wf_retN, wf_seq, wf_ret, wf_drop, wf_asg, wf_asgT, wf_par, wf_if, wf_app, wf_setI, tg_name, tg_tup, add_int, add_str, add_list, add_tup, sub_int, mul_int, mod_int, fdiv_int, pow_int, lt_int, le_int, gt_int, ge_int, eq_int, eq_str, ne_int, ne_str, neg_int, abs_int, int_int, int_bool, tup_list, lst_tup, lst_list, len_str, len_list, len_tup, seq_list, seq_tup, seq_str, rng1_int, rng2_int, sl_list, sl_tup, sl_str, rev_list, rev_tup, upper_str, List.set_cons_zero, List.set_cons_succ, setAll, List.length_cons, List.length_nil, Bool.false_eq_true, if_true, if_false, ite_self, eq_self, Bool.not_true, Bool.not_false, line, Nat.reduceLeDiff, Nat.reduceLT, Nat.reduceAdd, Int.reduceLT, Int.reduceLE, true_and, and_true, ixt0, ixt1, ixt2, ixt3, ixl0, ixl1, ixl2, ixl3]
    · have wa := hx a (by simp)
      have wb := hx b (by simp)
      have wc := hx c (by simp)
      have ea := names_g (n + 1) a wa
      simp [isiB, tyN, ea, wp_ok, op_some, op_none, bp_bool, ip_int, lp_list, tp_tup, slot_0, slot_s, WP_cB, wp_slot, wp_lit, wp_c1, wp_c2, wp_nil, wp_cons, wp_cN, wp_and, wp_or, wp_not, wp_if, wp_tup, wp_lst, wp_chain, wp_isi, wp_part0, wp_part, wp_sl, wp_call, wp_callB, wp_get, wp_idx, dc_dict, wp_seq, wp_src, wf_next, wf_brk, wf_cnt, wf_retN, wf_seq, wf_ret, wf_drop, wf_asg, wf_asgT, wf_par, wf_if, wf_app, wf_setI, tg_name, tg_tup, add_int, add_str, add_list, add_tup, sub_int, mul_int, mod_int, fdiv_int, pow_int, lt_int, le_int, gt_int, ge_int, eq_int, eq_str, ne_int, ne_str, neg_int, abs_int, int_int, int_bool, tup_list, lst_tup, lst_list, len_str, len_list, len_tup, seq_list, seq_tup, seq_str, rng1_int, rng2_int, sl_list, sl_tup, sl_str, rev_list, rev_tup, upper_str, List.set_cons_zero, List.set_cons_succ, setAll, List.length_cons, List.length_nil, Bool.false_eq_true, if_true, if_false, ite_self, eq_self, Bool.not_true, Bool.not_false, line, Nat.reduceLeDiff, Nat.reduceLT, Nat.reduceAdd, Int.reduceLT, Int.reduceLE, true_and, and_true, ixt0, ixt1, ixt2, ixt3, ixl0, ixl1, ixl2, ixl3]
      cases hna : namesB a with
      | false => simp [groundB, hna]
      | true =>
        cases wa <;> first | (cases hna; done) | skip
        rename_i ns hl3 hx3
        have hns : ns.all nmB = true := by
          have : (ns.all nmB && adjD ns) = true := hna
          rw [Bool.and_eq_true] at this
          exact this.1
        simp only [if_true]
        rw [reasons_g n b wb ns hns hl3, bars_g n c wc ns hns hl3]
        simp only [wp_ok, op_some, op_none, bp_bool, ip_int, lp_list, tp_tup, slot_0, slot_s, WP_cB, wp_slot, wp_lit, wp_c1, wp_c2, wp_nil, wp_cons, wp_cN, wp_and, wp_or, wp_not, wp_if, wp_tup, wp_lst, wp_chain, wp_isi, wp_part0, wp_part, wp_sl, wp_call, wp_callB, wp_get, wp_idx, dc_dict, wp_seq, wp_src, wf_next, wf_brk, wf_cnt, wf_retN, wf_seq, wf_ret, wf_drop, wf_asg, wf_asgT, wf_par, wf_if, wf_app, wf_setI, tg_name, tg_tup, add_int, add_str, add_list, add_tup, sub_int, mul_int, mod_int, fdiv_int, pow_int, lt_int, le_int, gt_int, ge_int, eq_int, eq_str, ne_int, ne_str, neg_int, abs_int, int_int, int_bool, tup_list, lst_tup, lst_list, len_str, len_list, len_tup, seq_list, seq_tup, seq_str, rng1_int, rng2_int, sl_list, sl_tup, sl_str, rev_list, rev_tup, upper_str, List.set_cons_zero, List.set_cons_succ, setAll, List.length_cons, List.length_nil, Bool.false_eq_true, if_true, if_false, ite_self, eq_self, Bool.not_true, Bool.not_false, line, Nat.reduceLeDiff, Nat.reduceLT, Nat.reduceAdd, Int.reduceLT, Int.reduceLE, true_and, and_true, ixt0, ixt1, ixt2, ixt3, ixl0, ixl1, ixl2, ixl3]
        cases hrb : reasonsB ns b <;> simp [groundB, hna, hrb]
    · simp [isiB, tyN, groundB, wp_ok, op_some, op_none, bp_bool, ip_int, lp_list, tp_tup, slot_0, slot_s, WP_cB, wp_slot, wp_lit, wp_c1, wp_c2, wp_nil, wp_cons, wp_cN, wp_and, wp_or, wp_not, wp_if, wp_tup, wp_lst, wp_chain, wp_isi, wp_part0, wp_part, wp_sl, wp_call, wp_callB, wp_get, wp_idx, dc_dict, wp_seq, wp_src, wf_next, wf_brk, wf_cnt, wf_retN, wf_seq, wf_ret, wf_drop, wf_asg, wf_asgT, wf_par, wf_if, wf_app, wf_setI, tg_name, tg_tup, add_int, add_str, add_list, add_tup, sub_int, mul_int, mod_int, fdiv_int, pow_int, lt_int, le_int, gt_int, ge_int, eq_int, eq_str, ne_int, ne_str, neg_int, abs_int, int_int, int_bool, tup_list, lst_tup, lst_list, len_str, len_list, len_tup, seq_list, seq_tup, seq_str, rng1_int, rng2_int, sl_list, sl_tup, sl_str, rev_list, rev_tup, upper_str, List.set_cons_zero, List.set_cons_succ, setAll, List.length_cons, List.length_nil, Bool.false_eq_true, if_true, if_false, ite_self, eq_self, Bool.not_true, Bool.not_false, line, Nat.reduceLeDiff, Nat.reduceLT, Nat.reduceAdd, Int.reduceLT, Int.reduceLE, true_and, and_true, ixt0, ixt1, ixt2, ixt3, ixl0, ixl1, ixl2, ixl3]
      intro h
      omega
  | _ => simp [isiB, tyN, groundB, wp_ok, op_some, op_none, bp_bool, ip_int, lp_list, tp_tup, slot_0, slot_s, WP_cB, wp_slot, wp_lit, wp_c1, wp_c2, wp_nil, wp_cons, wp_cN, wp_and, wp_or, wp_not, wp_if, wp_tup, wp_lst, wp_chain, wp_isi, wp_part0, wp_part, wp_sl, wp_call, wp_callB, wp_get, wp_idx, dc_dict, wp_seq, wp_src, wf_next, wf_brk, wf_cnt, wf_retN, wf_seq, wf_ret, wf_drop, wf_asg, wf_asgT, wf_par, wf_if, wf_app, wf_setI, tg_name, tg_tup, add_int, add_str, add_list, add_tup, sub_int, mul_int, mod_int, fdiv_int, pow_int, lt_int, le_int, gt_int, ge_int, eq_int, eq_str, ne_int, ne_str, neg_int, abs_int, int_int, int_bool, tup_list, lst_tup, lst_list, len_str, len_list, len_tup, seq_list, seq_tup, seq_str, rng1_int, rng2_int, sl_list, sl_tup, sl_str, rev_list, rev_tup, upper_str, List.set_cons_zero, List.set_cons_succ, setAll, List.length_cons, List.length_nil, Bool.false_eq_true, if_true, if_false, ite_self, eq_self, Bool.not_true, Bool.not_false, line, Nat.reduceLeDiff, Nat.reduceLT, Nat.reduceAdd, Int.reduceLT, Int.reduceLE, true_and, and_true, ixt0, ixt1, ixt2, ixt3, ixl0, ixl1, ixl2, ixl3]
theorem name_wg {z : Str} (h : nameB z = true) : Wg (.str z) := .str (by have := name_len h; omega)
theorem grd_wg {us : List Str} {rs : List RsT} {bs : List BrT} (h : GrS us rs bs) : Wg (groundD us rs bs) := by
  have few := h.few
  have rl := h.rlen
  have bl := h.blen
  refine .tup (by simp) fun v hv => ?_
  simp only [List.mem_cons, List.not_mem_nil, or_false] at hv
  rcases hv with rfl | rfl | rfl
  · refine .tup (by rw [List.length_map]; omega) fun d hd => ?_
    obtain ⟨z, hz, rfl⟩ := List.mem_map.mp hd
    exact name_wg (h.name z hz)
  · refine .tup (by rw [List.length_map]; omega) fun d hd => ?_
    obtain ⟨r, hr, rfl⟩ := List.mem_map.mp hd
    have ok := h.rok r hr
    have nm := ok.names h.name
    obtain ⟨o1, o2, _, o3, o4⟩ := ok
    refine .tup (by simp) fun v hv => ?_
    simp only [List.mem_cons, List.not_mem_nil, or_false] at hv
    rcases hv with rfl | rfl | rfl | rfl
    · exact .int (by omega) (by omega)
    · exact name_wg nm.1
    · exact name_wg nm.2
    · exact .int (by omega) (by omega)
  · refine .tup (by rw [List.length_map]; omega) fun d hd => ?_
    obtain ⟨r, hr, rfl⟩ := List.mem_map.mp hd
    have ok := h.bok r hr
    have nm := ok.names h.name
    obtain ⟨_, o3, o4⟩ := ok
    refine .tup (by simp) fun v hv => ?_
    simp only [List.mem_cons, List.not_mem_nil, or_false] at hv
    rcases hv with rfl | rfl | rfl
    · exact name_wg nm.1
    · exact name_wg nm.2
    · exact .int (by omega) (by omega)
theorem inN_mem {us : List Str} {z : Str} (h : z ∈ us) : inN (us.map .str) (.str z) = true := by
  unfold inN
  rw [any_eqv]
  exact decide_eq_true h
theorem rs_good {us : List Str} {r : RsT} (hn : ∀ z ∈ us, nameB z = true) (h : RsS us r) : reasonB (rsD r) = true ∧ endsR (us.map .str) (rsD r) = true := by
  have nm := h.names hn
  obtain ⟨o1, o2, ⟨m1, m2, lt⟩, o3, o4⟩ := h
  refine ⟨?_, ?_⟩
  · show (numB 1 1000 (.int r.1) && (twoB (.str r.2.1) (.str r.2.2.1) && cntB (.int r.2.2.2))) = true
    simp only [numB, twoB, cntB, nm.1, nm.2, lt, decide_eq_true o1, decide_eq_true o2, decide_eq_true o3, Bool.and_self]
  · show (inN _ (.str r.2.1) && inN _ (.str r.2.2.1)) = true
    rw [inN_mem m1, inN_mem m2]; rfl
theorem br_good {us : List Str} {r : BrT} (hn : ∀ z ∈ us, nameB z = true) (h : BrS us r) : barB (brD r) = true ∧ endsB (us.map .str) (brD r) = true := by
  have nm := h.names hn
  obtain ⟨⟨m1, m2, lt⟩, o3, o4⟩ := h
  refine ⟨?_, ?_⟩
  · show (twoB (.str r.1) (.str r.2.1) && cntB (.int r.2.2)) = true
    simp only [twoB, cntB, nm.1, nm.2, lt, decide_eq_true o3, Bool.and_self]
  · show (inN _ (.str r.1) && inN _ (.str r.2.1)) = true
    rw [inN_mem m1, inN_mem m2]; rfl
theorem nms_good {us : List Str} (hn : ∀ z ∈ us, nameB z = true) (rise : adjB us = true) : namesB (.tuple (us.map .str)) = true := by
  show ((us.map PyData.str).all nmB && adjD (us.map PyData.str)) = true
  rw [adj_strs, rise, List.all_map]
  rw [Bool.and_true, List.all_eq_true]
  exact hn
theorem grd_good {us : List Str} {rs : List RsT} {bs : List BrT} (h : GrS us rs bs) : groundB (groundD us rs bs) = true := by
  show (namesB (.tuple (us.map .str)) && (reasonsB (us.map .str) (.tuple (rs.map rsD)) && barsB (us.map .str) (.tuple (bs.map brD)))) = true
  rw [nms_good h.name h.rise, Bool.true_and]
  have e1 : reasonsB (us.map .str) (.tuple (rs.map rsD)) = true := by
    show ((rs.map rsD).all reasonB && ((rs.map rsD).all (endsR (us.map .str)) && adjD ((rs.map rsD).map ngD))) = true
    rw [neg_rows, h.rrise, List.all_map, List.all_map, Bool.and_true, Bool.and_eq_true, List.all_eq_true, List.all_eq_true]
    exact ⟨fun r hr => (rs_good h.name (h.rok r hr)).1, fun r hr => (rs_good h.name (h.rok r hr)).2⟩
  have e2 : barsB (us.map .str) (.tuple (bs.map brD)) = true := by
    show ((bs.map brD).all barB && ((bs.map brD).all (endsB (us.map .str)) && adjD (bs.map brD))) = true
    rw [h.brise, List.all_map, List.all_map, Bool.and_true, Bool.and_eq_true, List.all_eq_true, List.all_eq_true]
    exact ⟨fun r hr => (br_good h.name (h.bok r hr)).1, fun r hr => (br_good h.name (h.bok r hr)).2⟩
  rw [e1, e2]; rfl
theorem is_ground_eq (n : Nat) {us : List Str} {rs : List RsT} {bs : List BrT} (h : GrS us rs bs) : evF T G (n + 5) 10 [groundD us rs bs] = .ok (.bool true) := by
  rw [ground_g n _ (grd_wg h), grd_good h]
theorem is_reason_eq (n : Nat) {us : List Str} {r : RsT} (hn : ∀ z ∈ us, nameB z = true) (h : RsS us r) : evF T G (n + 3) 4 [rsD r] = .ok (.bool true) := by
  have nm := h.names hn
  rw [reason_g n _ ?_, (rs_good hn h).1]
  obtain ⟨o1, o2, _, o3, o4⟩ := h
  refine .tup (by simp) fun v hv => ?_
  simp only [List.mem_cons, List.not_mem_nil, or_false] at hv
  rcases hv with rfl | rfl | rfl | rfl
  · exact .int (by omega) (by omega)
  · exact name_wg nm.1
  · exact name_wg nm.2
  · exact .int (by omega) (by omega)
theorem is_bar_eq (n : Nat) {us : List Str} {r : BrT} (hn : ∀ z ∈ us, nameB z = true) (h : BrS us r) : evF T G (n + 3) 5 [brD r] = .ok (.bool true) := by
  have nm := h.names hn
  rw [bar_g n _ ?_, (br_good hn h).1]
  obtain ⟨_, o3, o4⟩ := h
  refine .tup (by simp) fun v hv => ?_
  simp only [List.mem_cons, List.not_mem_nil, or_false] at hv
  rcases hv with rfl | rfl | rfl
  · exact name_wg nm.1
  · exact name_wg nm.2
  · exact .int (by omega) (by omega)
end K51

set_option Elab.async false
set_option linter.all false
set_option maxRecDepth 100000
set_option maxHeartbeats 8000000
namespace K51
open PySem Ev
open TL (tl joinL tl_join join_eq len_tl tl_append ext_tl tl_ofString mk_tl split_join partition_app)
theorem ix_head {z : Str} {Q : D → Prop} (hz : z.length ≤ 16777216) (hp : 1 ≤ z.length) (q : ∀ c r, tl z = c :: r → Q (.str ⟨#[c]⟩)) : OP (ixD (.str z) (.int 0)) Q := by
  show OP (if z.length ≤ line then (L2.atI (tl z) ((0 : Nat) : Int)).map fun c => .str ⟨#[c]⟩ else none) Q
  rw [if_pos hz]
  have hj : 0 < (tl z).length := by rw [← len_tl]; omega
  obtain ⟨c, r, e⟩ : ∃ c r, tl z = c :: r := by
    cases e : tl z with
    | nil => rw [e] at hj; cases hj
    | cons c r => exact ⟨c, r, rfl⟩
  have e2 : (tl z)[0]? = some c := by rw [e]; rfl
  rw [atI_nat e2]
  exact q c r e
theorem one_zero {c : Nat} (h : (⟨#[c]⟩ : Str) = ("0" : Str)) : c = 48 := by
  have : tl (⟨#[c]⟩ : Str) = tl ("0" : Str) := by rw [h]
  have e2 : tl ("0" : Str) = [48] := by decide +kernel
  have e3 : tl (⟨#[c]⟩ : Str) = [c] := rfl
  rw [e2, e3] at this
  simpa using this
theorem number_ok (n : Nat) {k : Int} (h0 : 0 ≤ k) (h1 : k < 1000000) : evF T G (n + 1) 11 [.str (numS k)] = .ok (.int k) := by
  refine WP.ok ?_
  rw [e11]
  refine wp_run rfl ?_
  have l1 := num_pos h0
  have l6 := num_len6 h0 h1
  have a1 : (1 : Int) ≤ ((numS k).length : Nat) := by omega
  have a2 : (((numS k).length : Nat) : Int) ≤ 6 := by omega
  have fin : OP (intG [.str (numS k)]) fun v => v = .int k := by rw [int_num h0 h1]
  simp only [bd11, startE, List.map, List.replicate, List.append, List.cons_append, List.nil_append, wp_ok, op_some, op_none, bp_bool, ip_int, lp_list, tp_tup, slot_0, slot_s, WP_cB, wp_slot, wp_lit, wp_c1, wp_c2, wp_nil, wp_cons, wp_cN, wp_and, wp_or, wp_not, wp_if, wp_tup, wp_lst, wp_chain, wp_isi, wp_part0, wp_part, wp_sl, wp_call, wp_callB, wp_get, wp_idx, dc_dict, wp_seq, wp_src, wf_next, wf_brk, wf_cnt, wf_retN, wf_seq, wf_ret, wf_drop, wf_asg, wf_asgT, wf_par, wf_if, wf_app, wf_setI, tg_name, tg_tup, add_int, add_str, add_list, add_tup, sub_int, mul_int, mod_int, fdiv_int, pow_int, lt_int, le_int, gt_int, ge_int, eq_int, eq_str, ne_int, ne_str, neg_int, abs_int, int_int, int_bool, tup_list, lst_tup, lst_list, len_str, len_list, len_tup, seq_list, seq_tup, seq_str, rng1_int, rng2_int, sl_list, sl_tup, sl_str, rev_list, rev_tup, upper_str, List.set_cons_zero, List.set_cons_succ, setAll, List.length_cons, List.length_nil, Bool.false_eq_true, if_true, if_false, ite_self, eq_self, Bool.not_true, Bool.not_false, line, Nat.reduceLeDiff, Nat.reduceLT, Nat.reduceAdd, Int.reduceLT, Int.reduceLE, true_and, and_true, ixt0, ixt1, ixt2, ixt3, ixl0, ixl1, ixl2, ixl3]
  refine ⟨by omega, ?_⟩
  simp only [a1, a2, decide_true, wp_ok, op_some, op_none, bp_bool, ip_int, lp_list, tp_tup, slot_0, slot_s, WP_cB, wp_slot, wp_lit, wp_c1, wp_c2, wp_nil, wp_cons, wp_cN, wp_and, wp_or, wp_not, wp_if, wp_tup, wp_lst, wp_chain, wp_isi, wp_part0, wp_part, wp_sl, wp_call, wp_callB, wp_get, wp_idx, dc_dict, wp_seq, wp_src, wf_next, wf_brk, wf_cnt, wf_retN, wf_seq, wf_ret, wf_drop, wf_asg, wf_asgT, wf_par, wf_if, wf_app, wf_setI, tg_name, tg_tup, add_int, add_str, add_list, add_tup, sub_int, mul_int, mod_int, fdiv_int, pow_int, lt_int, le_int, gt_int, ge_int, eq_int, eq_str, ne_int, ne_str, neg_int, abs_int, int_int, int_bool, tup_list, lst_tup, lst_list, len_str, len_list, len_tup, seq_list, seq_tup, seq_str, rng1_int, rng2_int, sl_list, sl_tup, sl_str, rev_list, rev_tup, upper_str, List.set_cons_zero, List.set_cons_succ, setAll, List.length_cons, List.length_nil, Bool.false_eq_true, if_true, if_false, ite_self, eq_self, Bool.not_true, Bool.not_false, line, Nat.reduceLeDiff, Nat.reduceLT, Nat.reduceAdd, Int.reduceLT, Int.reduceLE, true_and, and_true, ixt0, ixt1, ixt2, ixt3, ixl0, ixl1, ixl2, ixl3]
  refine comp_sign (S := figS) (fun ρ Q => wp_lit _ Q) (by show _ ≤ 16777216; omega) ?_
  rw [num_signs h0]
  simp only [wp_ok, op_some, op_none, bp_bool, ip_int, lp_list, tp_tup, slot_0, slot_s, WP_cB, wp_slot, wp_lit, wp_c1, wp_c2, wp_nil, wp_cons, wp_cN, wp_and, wp_or, wp_not, wp_if, wp_tup, wp_lst, wp_chain, wp_isi, wp_part0, wp_part, wp_sl, wp_call, wp_callB, wp_get, wp_idx, dc_dict, wp_seq, wp_src, wf_next, wf_brk, wf_cnt, wf_retN, wf_seq, wf_ret, wf_drop, wf_asg, wf_asgT, wf_par, wf_if, wf_app, wf_setI, tg_name, tg_tup, add_int, add_str, add_list, add_tup, sub_int, mul_int, mod_int, fdiv_int, pow_int, lt_int, le_int, gt_int, ge_int, eq_int, eq_str, ne_int, ne_str, neg_int, abs_int, int_int, int_bool, tup_list, lst_tup, lst_list, len_str, len_list, len_tup, seq_list, seq_tup, seq_str, rng1_int, rng2_int, sl_list, sl_tup, sl_str, rev_list, rev_tup, upper_str, List.set_cons_zero, List.set_cons_succ, setAll, List.length_cons, List.length_nil, Bool.false_eq_true, if_true, if_false, ite_self, eq_self, Bool.not_true, Bool.not_false, line, Nat.reduceLeDiff, Nat.reduceLT, Nat.reduceAdd, Int.reduceLT, Int.reduceLE, true_and, and_true, ixt0, ixt1, ixt2, ixt3, ixl0, ixl1, ixl2, ixl3]
  refine ix_head (by omega) l1 fun c r e => ?_
  simp only [wp_ok, op_some, op_none, bp_bool, ip_int, lp_list, tp_tup, slot_0, slot_s, WP_cB, wp_slot, wp_lit, wp_c1, wp_c2, wp_nil, wp_cons, wp_cN, wp_and, wp_or, wp_not, wp_if, wp_tup, wp_lst, wp_chain, wp_isi, wp_part0, wp_part, wp_sl, wp_call, wp_callB, wp_get, wp_idx, dc_dict, wp_seq, wp_src, wf_next, wf_brk, wf_cnt, wf_retN, wf_seq, wf_ret, wf_drop, wf_asg, wf_asgT, wf_par, wf_if, wf_app, wf_setI, tg_name, tg_tup, add_int, add_str, add_list, add_tup, sub_int, mul_int, mod_int, fdiv_int, pow_int, lt_int, le_int, gt_int, ge_int, eq_int, eq_str, ne_int, ne_str, neg_int, abs_int, int_int, int_bool, tup_list, lst_tup, lst_list, len_str, len_list, len_tup, seq_list, seq_tup, seq_str, rng1_int, rng2_int, sl_list, sl_tup, sl_str, rev_list, rev_tup, upper_str, List.set_cons_zero, List.set_cons_succ, setAll, List.length_cons, List.length_nil, Bool.false_eq_true, if_true, if_false, ite_self, eq_self, Bool.not_true, Bool.not_false, line, Nat.reduceLeDiff, Nat.reduceLT, Nat.reduceAdd, Int.reduceLT, Int.reduceLE, true_and, and_true, ixt0, ixt1, ixt2, ixt3, ixl0, ixl1, ixl2, ixl3]
  by_cases h : (⟨#[c]⟩ : Str) = ("0" : Str)
  · have e2 := num_head h0 e (one_zero h)
    simp only [h, decide_true, wp_ok, op_some, op_none, bp_bool, ip_int, lp_list, tp_tup, slot_0, slot_s, WP_cB, wp_slot, wp_lit, wp_c1, wp_c2, wp_nil, wp_cons, wp_cN, wp_and, wp_or, wp_not, wp_if, wp_tup, wp_lst, wp_chain, wp_isi, wp_part0, wp_part, wp_sl, wp_call, wp_callB, wp_get, wp_idx, dc_dict, wp_seq, wp_src, wf_next, wf_brk, wf_cnt, wf_retN, wf_seq, wf_ret, wf_drop, wf_asg, wf_asgT, wf_par, wf_if, wf_app, wf_setI, tg_name, tg_tup, add_int, add_str, add_list, add_tup, sub_int, mul_int, mod_int, fdiv_int, pow_int, lt_int, le_int, gt_int, ge_int, eq_int, eq_str, ne_int, ne_str, neg_int, abs_int, int_int, int_bool, tup_list, lst_tup, lst_list, len_str, len_list, len_tup, seq_list, seq_tup, seq_str, rng1_int, rng2_int, sl_list, sl_tup, sl_str, rev_list, rev_tup, upper_str, List.set_cons_zero, List.set_cons_succ, setAll, List.length_cons, List.length_nil, Bool.false_eq_true, if_true, if_false, ite_self, eq_self, Bool.not_true, Bool.not_false, line, Nat.reduceLeDiff, Nat.reduceLT, Nat.reduceAdd, Int.reduceLT, Int.reduceLE, true_and, and_true, ixt0, ixt1, ixt2, ixt3, ixl0, ixl1, ixl2, ixl3, e2]
    rw [← e2]; exact fin
  · simp only [h, decide_false, wp_ok, op_some, op_none, bp_bool, ip_int, lp_list, tp_tup, slot_0, slot_s, WP_cB, wp_slot, wp_lit, wp_c1, wp_c2, wp_nil, wp_cons, wp_cN, wp_and, wp_or, wp_not, wp_if, wp_tup, wp_lst, wp_chain, wp_isi, wp_part0, wp_part, wp_sl, wp_call, wp_callB, wp_get, wp_idx, dc_dict, wp_seq, wp_src, wf_next, wf_brk, wf_cnt, wf_retN, wf_seq, wf_ret, wf_drop, wf_asg, wf_asgT, wf_par, wf_if, wf_app, wf_setI, tg_name, tg_tup, add_int, add_str, add_list, add_tup, sub_int, mul_int, mod_int, fdiv_int, pow_int, lt_int, le_int, gt_int, ge_int, eq_int, eq_str, ne_int, ne_str, neg_int, abs_int, int_int, int_bool, tup_list, lst_tup, lst_list, len_str, len_list, len_tup, seq_list, seq_tup, seq_str, rng1_int, rng2_int, sl_list, sl_tup, sl_str, rev_list, rev_tup, upper_str, List.set_cons_zero, List.set_cons_succ, setAll, List.length_cons, List.length_nil, Bool.false_eq_true, if_true, if_false, ite_self, eq_self, Bool.not_true, Bool.not_false, line, Nat.reduceLeDiff, Nat.reduceLT, Nat.reduceAdd, Int.reduceLT, Int.reduceLE, true_and, and_true, ixt0, ixt1, ixt2, ixt3, ixl0, ixl1, ixl2, ixl3]
    exact fin
theorem rtx_ne (r : RsT) : (rtx r).length = r.2.1.length + 1 + r.2.2.1.length + 1 + (numS r.1).length + 1 + (numS r.2.2.2).length := by
  unfold rtx
  have s1 : ("-" : Str).length = 1 := by decide +kernel
  have s2 : (" " : Str).length = 1 := by decide +kernel
  simp only [str_app, s1, s2]
theorem show_reason_ok (n : Nat) {us : List Str} {r : RsT} (hn : ∀ z ∈ us, nameB z = true) (h : RsS us r) : evF T G (n + 1) 12 [rsD r] = .ok (.str (rtx r)) := by
  refine WP.ok ?_
  rw [e12]
  refine wp_run rfl ?_
  have nm := h.names hn
  have q1 := name_len nm.1
  have q2 := name_len nm.2
  obtain ⟨o1, o2, _, o3, o4⟩ := h
  have s1 : ("-" : Str).length = 1 := by decide +kernel
  have s2 : (" " : Str).length = 1 := by decide +kernel
  have m1 := num_len6 (k := r.1) (by omega) (by omega)
  have m2 := num_len6 o3 o4
  simp only [bd12, rsD, startE, List.map, List.replicate, List.append, List.cons_append, List.nil_append, wp_ok, op_some, op_none, bp_bool, ip_int, lp_list, tp_tup, slot_0, slot_s, WP_cB, wp_slot, wp_lit, wp_c1, wp_c2, wp_nil, wp_cons, wp_cN, wp_and, wp_or, wp_not, wp_if, wp_tup, wp_lst, wp_chain, wp_isi, wp_part0, wp_part, wp_sl, wp_call, wp_callB, wp_get, wp_idx, dc_dict, wp_seq, wp_src, wf_next, wf_brk, wf_cnt, wf_retN, wf_seq, wf_ret, wf_drop, wf_asg, wf_asgT, wf_par, wf_if, wf_app, wf_setI, tg_name, tg_tup, add_int, add_str, add_list, add_tup, sub_int, mul_int, mod_int, fdiv_int, pow_int, lt_int, le_int, gt_int, ge_int, eq_int, eq_str, ne_int, ne_str, neg_int, abs_int, int_int, int_bool, tup_list, lst_tup, lst_list, len_str, len_list, len_tup, seq_list, seq_tup, seq_str, rng1_int, rng2_int, sl_list, sl_tup, sl_str, rev_list, rev_tup, upper_str, List.set_cons_zero, List.set_cons_succ, setAll, List.length_cons, List.length_nil, Bool.false_eq_true, if_true, if_false, ite_self, eq_self, Bool.not_true, Bool.not_false, line, Nat.reduceLeDiff, Nat.reduceLT, Nat.reduceAdd, Int.reduceLT, Int.reduceLE, true_and, and_true, ixt0, ixt1, ixt2, ixt3, ixl0, ixl1, ixl2, ixl3, str_app, s1, s2]
  refine ⟨by omega, by omega, by omega, ?_⟩
  rw [str_num (by omega) (by omega)]
  simp only [wp_ok, op_some, op_none, bp_bool, ip_int, lp_list, tp_tup, slot_0, slot_s, WP_cB, wp_slot, wp_lit, wp_c1, wp_c2, wp_nil, wp_cons, wp_cN, wp_and, wp_or, wp_not, wp_if, wp_tup, wp_lst, wp_chain, wp_isi, wp_part0, wp_part, wp_sl, wp_call, wp_callB, wp_get, wp_idx, dc_dict, wp_seq, wp_src, wf_next, wf_brk, wf_cnt, wf_retN, wf_seq, wf_ret, wf_drop, wf_asg, wf_asgT, wf_par, wf_if, wf_app, wf_setI, tg_name, tg_tup, add_int, add_str, add_list, add_tup, sub_int, mul_int, mod_int, fdiv_int, pow_int, lt_int, le_int, gt_int, ge_int, eq_int, eq_str, ne_int, ne_str, neg_int, abs_int, int_int, int_bool, tup_list, lst_tup, lst_list, len_str, len_list, len_tup, seq_list, seq_tup, seq_str, rng1_int, rng2_int, sl_list, sl_tup, sl_str, rev_list, rev_tup, upper_str, List.set_cons_zero, List.set_cons_succ, setAll, List.length_cons, List.length_nil, Bool.false_eq_true, if_true, if_false, ite_self, eq_self, Bool.not_true, Bool.not_false, line, Nat.reduceLeDiff, Nat.reduceLT, Nat.reduceAdd, Int.reduceLT, Int.reduceLE, true_and, and_true, ixt0, ixt1, ixt2, ixt3, ixl0, ixl1, ixl2, ixl3, str_app, s1, s2]
  refine ⟨by omega, by omega, ?_⟩
  rw [str_num o3 o4]
  simp only [wp_ok, op_some, op_none, bp_bool, ip_int, lp_list, tp_tup, slot_0, slot_s, WP_cB, wp_slot, wp_lit, wp_c1, wp_c2, wp_nil, wp_cons, wp_cN, wp_and, wp_or, wp_not, wp_if, wp_tup, wp_lst, wp_chain, wp_isi, wp_part0, wp_part, wp_sl, wp_call, wp_callB, wp_get, wp_idx, dc_dict, wp_seq, wp_src, wf_next, wf_brk, wf_cnt, wf_retN, wf_seq, wf_ret, wf_drop, wf_asg, wf_asgT, wf_par, wf_if, wf_app, wf_setI, tg_name, tg_tup, add_int, add_str, add_list, add_tup, sub_int, mul_int, mod_int, fdiv_int, pow_int, lt_int, le_int, gt_int, ge_int, eq_int, eq_str, ne_int, ne_str, neg_int, abs_int, int_int, int_bool, tup_list, lst_tup, lst_list, len_str, len_list, len_tup, seq_list, seq_tup, seq_str, rng1_int, rng2_int, sl_list, sl_tup, sl_str, rev_list, rev_tup, upper_str, List.set_cons_zero, List.set_cons_succ, setAll, List.length_cons, List.length_nil, Bool.false_eq_true, if_true, if_false, ite_self, eq_self, Bool.not_true, Bool.not_false, line, Nat.reduceLeDiff, Nat.reduceLT, Nat.reduceAdd, Int.reduceLT, Int.reduceLE, true_and, and_true, ixt0, ixt1, ixt2, ixt3, ixl0, ixl1, ixl2, ixl3, str_app, s1, s2]
  exact ⟨by omega, rfl⟩
theorem show_bar_ok (n : Nat) {us : List Str} {r : BrT} (hn : ∀ z ∈ us, nameB z = true) (h : BrS us r) : evF T G (n + 1) 13 [brD r] = .ok (.str (btx r)) := by
  refine WP.ok ?_
  rw [e13]
  refine wp_run rfl ?_
  have nm := h.names hn
  have q1 := name_len nm.1
  have q2 := name_len nm.2
  obtain ⟨_, o3, o4⟩ := h
  have s1 : ("/" : Str).length = 1 := by decide +kernel
  have s2 : (" " : Str).length = 1 := by decide +kernel
  have m2 := num_len6 o3 o4
  simp only [bd13, brD, startE, List.map, List.replicate, List.append, List.cons_append, List.nil_append, wp_ok, op_some, op_none, bp_bool, ip_int, lp_list, tp_tup, slot_0, slot_s, WP_cB, wp_slot, wp_lit, wp_c1, wp_c2, wp_nil, wp_cons, wp_cN, wp_and, wp_or, wp_not, wp_if, wp_tup, wp_lst, wp_chain, wp_isi, wp_part0, wp_part, wp_sl, wp_call, wp_callB, wp_get, wp_idx, dc_dict, wp_seq, wp_src, wf_next, wf_brk, wf_cnt, wf_retN, wf_seq, wf_ret, wf_drop, wf_asg, wf_asgT, wf_par, wf_if, wf_app, wf_setI, tg_name, tg_tup, add_int, add_str, add_list, add_tup, sub_int, mul_int, mod_int, fdiv_int, pow_int, lt_int, le_int, gt_int, ge_int, eq_int, eq_str, ne_int, ne_str, neg_int, abs_int, int_int, int_bool, tup_list, lst_tup, lst_list, len_str, len_list, len_tup, seq_list, seq_tup, seq_str, rng1_int, rng2_int, sl_list, sl_tup, sl_str, rev_list, rev_tup, upper_str, List.set_cons_zero, List.set_cons_succ, setAll, List.length_cons, List.length_nil, Bool.false_eq_true, if_true, if_false, ite_self, eq_self, Bool.not_true, Bool.not_false, line, Nat.reduceLeDiff, Nat.reduceLT, Nat.reduceAdd, Int.reduceLT, Int.reduceLE, true_and, and_true, ixt0, ixt1, ixt2, ixt3, ixl0, ixl1, ixl2, ixl3, str_app, s1, s2]
  refine ⟨by omega, by omega, by omega, ?_⟩
  rw [str_num o3 o4]
  simp only [wp_ok, op_some, op_none, bp_bool, ip_int, lp_list, tp_tup, slot_0, slot_s, WP_cB, wp_slot, wp_lit, wp_c1, wp_c2, wp_nil, wp_cons, wp_cN, wp_and, wp_or, wp_not, wp_if, wp_tup, wp_lst, wp_chain, wp_isi, wp_part0, wp_part, wp_sl, wp_call, wp_callB, wp_get, wp_idx, dc_dict, wp_seq, wp_src, wf_next, wf_brk, wf_cnt, wf_retN, wf_seq, wf_ret, wf_drop, wf_asg, wf_asgT, wf_par, wf_if, wf_app, wf_setI, tg_name, tg_tup, add_int, add_str, add_list, add_tup, sub_int, mul_int, mod_int, fdiv_int, pow_int, lt_int, le_int, gt_int, ge_int, eq_int, eq_str, ne_int, ne_str, neg_int, abs_int, int_int, int_bool, tup_list, lst_tup, lst_list, len_str, len_list, len_tup, seq_list, seq_tup, seq_str, rng1_int, rng2_int, sl_list, sl_tup, sl_str, rev_list, rev_tup, upper_str, List.set_cons_zero, List.set_cons_succ, setAll, List.length_cons, List.length_nil, Bool.false_eq_true, if_true, if_false, ite_self, eq_self, Bool.not_true, Bool.not_false, line, Nat.reduceLeDiff, Nat.reduceLT, Nat.reduceAdd, Int.reduceLT, Int.reduceLE, true_and, and_true, ixt0, ixt1, ixt2, ixt3, ixl0, ixl1, ixl2, ixl3, str_app, s1, s2]
  exact ⟨by omega, rfl⟩
def shR : D → D
  | .tuple [.int w, .str a, .str b, .int k] => .str (rtx (w, a, b, k))
  | d => d
def shB : D → D
  | .tuple [.str a, .str b, .int k] => .str (btx (a, b, k))
  | d => d
theorem sum_rows {zs : List Str} {k : Nat} (h : ∀ z ∈ zs, z.length ≤ k) (m : Nat) (hm : zs.length ≤ m) : (zs.map (·.length)).sum ≤ k * m := by
  have := sum_le h
  exact Nat.le_trans this (Nat.mul_le_mul_left k hm)
theorem ntx_ok {us : List Str} (hn : ∀ z ∈ us, nameB z = true) (hl : us.length ≤ 15) {Q : D → Prop} (q : Q (.str (ntx us))) : OP (joinD (.str (" " : Str)) (.list (((("names" : Str) :: us).map .str)))) Q := by
  refine join_strs ?_ q
  have s2 : (" " : Str).length = 1 := by decide +kernel
  have := sum_rows (nm8 hn) 16 (by simp; omega)
  rw [s2]
  simp only [List.length_cons] at this ⊢
  omega
theorem ntx_okT {us : List Str} (hn : ∀ z ∈ us, nameB z = true) (hl : us.length ≤ 15) {Q : D → Prop} (q : Q (.str (ntx us))) : OP (joinD (.str (" " : Str)) (.tuple (((("names" : Str) :: us).map .str)))) Q := ntx_ok hn hl q
theorem gtx_ok {us : List Str} {rs : List RsT} {bs : List BrT} (h : GrS us rs bs) {Q : D → Prop} (q : Q (.str (gtx us rs bs))) : OP (joinD (.str ("\n" : Str)) (.list ((rows3 us rs bs).map .str))) Q := by
  have rl := rows_len h
  refine join_strs ?_ q
  have s2 : ("\n" : Str).length = 1 := by decide +kernel
  have := sum_rows rl.1 121 rl.2
  rw [s2]
  have := rl.2
  omega
theorem show_ground_ok (n : Nat) {us : List Str} {rs : List RsT} {bs : List BrT} (h : GrS us rs bs) : evF T G (n + 2) 14 [groundD us rs bs] = .ok (.str (gtx us rs bs)) := by
  refine WP.ok ?_
  rw [e14]
  refine wp_run rfl ?_
  have few := h.few
  have rl := h.rlen
  have bl := h.blen
  simp only [bd14, groundD, startE, List.map, List.replicate, List.append, List.cons_append, List.nil_append, wp_ok, op_some, op_none, bp_bool, ip_int, lp_list, tp_tup, slot_0, slot_s, WP_cB, wp_slot, wp_lit, wp_c1, wp_c2, wp_nil, wp_cons, wp_cN, wp_and, wp_or, wp_not, wp_if, wp_tup, wp_lst, wp_chain, wp_isi, wp_part0, wp_part, wp_sl, wp_call, wp_callB, wp_get, wp_idx, dc_dict, wp_seq, wp_src, wf_next, wf_brk, wf_cnt, wf_retN, wf_seq, wf_ret, wf_drop, wf_asg, wf_asgT, wf_par, wf_if, wf_app, wf_setI, tg_name, tg_tup, add_int, add_str, add_list, add_tup, sub_int, mul_int, mod_int, fdiv_int, pow_int, lt_int, le_int, gt_int, ge_int, eq_int, eq_str, ne_int, ne_str, neg_int, abs_int, int_int, int_bool, tup_list, lst_tup, lst_list, len_str, len_list, len_tup, seq_list, seq_tup, seq_str, rng1_int, rng2_int, sl_list, sl_tup, sl_str, rev_list, rev_tup, upper_str, List.set_cons_zero, List.set_cons_succ, setAll, List.length_cons, List.length_nil, Bool.false_eq_true, if_true, if_false, ite_self, eq_self, Bool.not_true, Bool.not_false, line, Nat.reduceLeDiff, Nat.reduceLT, Nat.reduceAdd, Int.reduceLT, Int.reduceLE, true_and, and_true, ixt0, ixt1, ixt2, ixt3, ixl0, ixl1, ixl2, ixl3]
  refine wp_cM1 ?_
  rw [wp_lit]
  refine ⟨_, rfl, ?_⟩
  simp only [wp_ok, op_some, op_none, bp_bool, ip_int, lp_list, tp_tup, slot_0, slot_s, WP_cB, wp_slot, wp_lit, wp_c1, wp_c2, wp_nil, wp_cons, wp_cN, wp_and, wp_or, wp_not, wp_if, wp_tup, wp_lst, wp_chain, wp_isi, wp_part0, wp_part, wp_sl, wp_call, wp_callB, wp_get, wp_idx, dc_dict, wp_seq, wp_src, wf_next, wf_brk, wf_cnt, wf_retN, wf_seq, wf_ret, wf_drop, wf_asg, wf_asgT, wf_par, wf_if, wf_app, wf_setI, tg_name, tg_tup, add_int, add_str, add_list, add_tup, sub_int, mul_int, mod_int, fdiv_int, pow_int, lt_int, le_int, gt_int, ge_int, eq_int, eq_str, ne_int, ne_str, neg_int, abs_int, int_int, int_bool, tup_list, lst_tup, lst_list, len_str, len_list, len_tup, seq_list, seq_tup, seq_str, rng1_int, rng2_int, sl_list, sl_tup, sl_str, rev_list, rev_tup, upper_str, List.set_cons_zero, List.set_cons_succ, setAll, List.length_cons, List.length_nil, Bool.false_eq_true, if_true, if_false, ite_self, eq_self, Bool.not_true, Bool.not_false, line, Nat.reduceLeDiff, Nat.reduceLT, Nat.reduceAdd, Int.reduceLT, Int.reduceLE, true_and, and_true, ixt0, ixt1, ixt2, ixt3, ixl0, ixl1, ixl2, ixl3, List.length_map]
  refine ⟨by omega, ?_⟩
  refine ntx_okT h.name few ?_
  refine wp_compM shR ?_
  simp only [wp_ok, op_some, op_none, bp_bool, ip_int, lp_list, tp_tup, slot_0, slot_s, WP_cB, wp_slot, wp_lit, wp_c1, wp_c2, wp_nil, wp_cons, wp_cN, wp_and, wp_or, wp_not, wp_if, wp_tup, wp_lst, wp_chain, wp_isi, wp_part0, wp_part, wp_sl, wp_call, wp_callB, wp_get, wp_idx, dc_dict, wp_seq, wp_src, wf_next, wf_brk, wf_cnt, wf_retN, wf_seq, wf_ret, wf_drop, wf_asg, wf_asgT, wf_par, wf_if, wf_app, wf_setI, tg_name, tg_tup, add_int, add_str, add_list, add_tup, sub_int, mul_int, mod_int, fdiv_int, pow_int, lt_int, le_int, gt_int, ge_int, eq_int, eq_str, ne_int, ne_str, neg_int, abs_int, int_int, int_bool, tup_list, lst_tup, lst_list, len_str, len_list, len_tup, seq_list, seq_tup, seq_str, rng1_int, rng2_int, sl_list, sl_tup, sl_str, rev_list, rev_tup, upper_str, List.set_cons_zero, List.set_cons_succ, setAll, List.length_cons, List.length_nil, Bool.false_eq_true, if_true, if_false, ite_self, eq_self, Bool.not_true, Bool.not_false, line, Nat.reduceLeDiff, Nat.reduceLT, Nat.reduceAdd, Int.reduceLT, Int.reduceLE, true_and, and_true, ixt0, ixt1, ixt2, ixt3, ixl0, ixl1, ixl2, ixl3]
  refine ⟨by rw [List.length_map]; omega, fun d hd => ?_, ?_⟩
  · obtain ⟨r, hr, rfl⟩ := List.mem_map.mp hd
    rw [show_reason_ok n h.name (h.rok r hr), wp_ok]
    rfl
  have e1 : (rs.map rsD).map shR = (rs.map rtx).map .str := by
    rw [List.map_map, List.map_map]; rfl
  rw [e1]
  simp only [wp_ok, op_some, op_none, bp_bool, ip_int, lp_list, tp_tup, slot_0, slot_s, WP_cB, wp_slot, wp_lit, wp_c1, wp_c2, wp_nil, wp_cons, wp_cN, wp_and, wp_or, wp_not, wp_if, wp_tup, wp_lst, wp_chain, wp_isi, wp_part0, wp_part, wp_sl, wp_call, wp_callB, wp_get, wp_idx, dc_dict, wp_seq, wp_src, wf_next, wf_brk, wf_cnt, wf_retN, wf_seq, wf_ret, wf_drop, wf_asg, wf_asgT, wf_par, wf_if, wf_app, wf_setI, tg_name, tg_tup, add_int, add_str, add_list, add_tup, sub_int, mul_int, mod_int, fdiv_int, pow_int, lt_int, le_int, gt_int, ge_int, eq_int, eq_str, ne_int, ne_str, neg_int, abs_int, int_int, int_bool, tup_list, lst_tup, lst_list, len_str, len_list, len_tup, seq_list, seq_tup, seq_str, rng1_int, rng2_int, sl_list, sl_tup, sl_str, rev_list, rev_tup, upper_str, List.set_cons_zero, List.set_cons_succ, setAll, List.length_cons, List.length_nil, Bool.false_eq_true, if_true, if_false, ite_self, eq_self, Bool.not_true, Bool.not_false, line, Nat.reduceLeDiff, Nat.reduceLT, Nat.reduceAdd, Int.reduceLT, Int.reduceLE, true_and, and_true, ixt0, ixt1, ixt2, ixt3, ixl0, ixl1, ixl2, ixl3, List.length_map]
  refine ⟨by omega, ?_⟩
  refine wp_cM1 ?_
  rw [wp_lit]
  refine ⟨_, rfl, ?_⟩
  simp only [wp_ok, op_some, op_none, bp_bool, ip_int, lp_list, tp_tup, slot_0, slot_s, WP_cB, wp_slot, wp_lit, wp_c1, wp_c2, wp_nil, wp_cons, wp_cN, wp_and, wp_or, wp_not, wp_if, wp_tup, wp_lst, wp_chain, wp_isi, wp_part0, wp_part, wp_sl, wp_call, wp_callB, wp_get, wp_idx, dc_dict, wp_seq, wp_src, wf_next, wf_brk, wf_cnt, wf_retN, wf_seq, wf_ret, wf_drop, wf_asg, wf_asgT, wf_par, wf_if, wf_app, wf_setI, tg_name, tg_tup, add_int, add_str, add_list, add_tup, sub_int, mul_int, mod_int, fdiv_int, pow_int, lt_int, le_int, gt_int, ge_int, eq_int, eq_str, ne_int, ne_str, neg_int, abs_int, int_int, int_bool, tup_list, lst_tup, lst_list, len_str, len_list, len_tup, seq_list, seq_tup, seq_str, rng1_int, rng2_int, sl_list, sl_tup, sl_str, rev_list, rev_tup, upper_str, List.set_cons_zero, List.set_cons_succ, setAll, List.length_cons, List.length_nil, Bool.false_eq_true, if_true, if_false, ite_self, eq_self, Bool.not_true, Bool.not_false, line, Nat.reduceLeDiff, Nat.reduceLT, Nat.reduceAdd, Int.reduceLT, Int.reduceLE, true_and, and_true, ixt0, ixt1, ixt2, ixt3, ixl0, ixl1, ixl2, ixl3]
  refine wp_compM shB ?_
  simp only [wp_ok, op_some, op_none, bp_bool, ip_int, lp_list, tp_tup, slot_0, slot_s, WP_cB, wp_slot, wp_lit, wp_c1, wp_c2, wp_nil, wp_cons, wp_cN, wp_and, wp_or, wp_not, wp_if, wp_tup, wp_lst, wp_chain, wp_isi, wp_part0, wp_part, wp_sl, wp_call, wp_callB, wp_get, wp_idx, dc_dict, wp_seq, wp_src, wf_next, wf_brk, wf_cnt, wf_retN, wf_seq, wf_ret, wf_drop, wf_asg, wf_asgT, wf_par, wf_if, wf_app, wf_setI, tg_name, tg_tup, add_int, add_str, add_list, add_tup, sub_int, mul_int, mod_int, fdiv_int, pow_int, lt_int, le_int, gt_int, ge_int, eq_int, eq_str, ne_int, ne_str, neg_int, abs_int, int_int, int_bool, tup_list, lst_tup, lst_list, len_str, len_list, len_tup, seq_list, seq_tup, seq_str, rng1_int, rng2_int, sl_list, sl_tup, sl_str, rev_list, rev_tup, upper_str, List.set_cons_zero, List.set_cons_succ, setAll, List.length_cons, List.length_nil, Bool.false_eq_true, if_true, if_false, ite_self, eq_self, Bool.not_true, Bool.not_false, line, Nat.reduceLeDiff, Nat.reduceLT, Nat.reduceAdd, Int.reduceLT, Int.reduceLE, true_and, and_true, ixt0, ixt1, ixt2, ixt3, ixl0, ixl1, ixl2, ixl3]
  refine ⟨by rw [List.length_map]; omega, fun d hd => ?_, ?_⟩
  · obtain ⟨r, hr, rfl⟩ := List.mem_map.mp hd
    rw [show_bar_ok n h.name (h.bok r hr), wp_ok]
    rfl
  have e2 : (bs.map brD).map shB = (bs.map btx).map .str := by
    rw [List.map_map, List.map_map]; rfl
  rw [e2]
  simp only [wp_ok, op_some, op_none, bp_bool, ip_int, lp_list, tp_tup, slot_0, slot_s, WP_cB, wp_slot, wp_lit, wp_c1, wp_c2, wp_nil, wp_cons, wp_cN, wp_and, wp_or, wp_not, wp_if, wp_tup, wp_lst, wp_chain, wp_isi, wp_part0, wp_part, wp_sl, wp_call, wp_callB, wp_get, wp_idx, dc_dict, wp_seq, wp_src, wf_next, wf_brk, wf_cnt, wf_retN, wf_seq, wf_ret, wf_drop, wf_asg, wf_asgT, wf_par, wf_if, wf_app, wf_setI, tg_name, tg_tup, add_int, add_str, add_list, add_tup, sub_int, mul_int, mod_int, fdiv_int, pow_int, lt_int, le_int, gt_int, ge_int, eq_int, eq_str, ne_int, ne_str, neg_int, abs_int, int_int, int_bool, tup_list, lst_tup, lst_list, len_str, len_list, len_tup, seq_list, seq_tup, seq_str, rng1_int, rng2_int, sl_list, sl_tup, sl_str, rev_list, rev_tup, upper_str, List.set_cons_zero, List.set_cons_succ, setAll, List.length_cons, List.length_nil, Bool.false_eq_true, if_true, if_false, ite_self, eq_self, Bool.not_true, Bool.not_false, line, Nat.reduceLeDiff, Nat.reduceLT, Nat.reduceAdd, Int.reduceLT, Int.reduceLE, true_and, and_true, ixt0, ixt1, ixt2, ixt3, ixl0, ixl1, ixl2, ixl3, List.length_map, List.length_cons, List.length_append]
  refine ⟨by omega, ?_⟩
  have e3 : PyData.str (ntx us) :: ((rs.map rtx).map PyData.str ++ (bs.map btx).map .str) = (rows3 us rs bs).map .str := by
    unfold rows3
    rw [List.map_cons, List.map_append]
  first | rw [e3] | (show OP (joinD _ (.list (PyData.str (ntx us) :: ((rs.map rtx).map PyData.str ++ (bs.map btx).map .str)))) _; rw [e3])
  exact gtx_ok h rfl
end K51

set_option Elab.async false
set_option linter.all false
set_option maxRecDepth 100000
set_option maxHeartbeats 8000000
namespace K51
open PySem Ev
open TL (tl joinL tl_join join_eq len_tl tl_append ext_tl tl_ofString mk_tl split_join partition_app)
theorem sp_len : ((" " : Str).length == 0) = false := by decide +kernel
theorem hy_len : (("-" : Str).length == 0) = false := by decide +kernel
theorem sl_len : (("/" : Str).length == 0) = false := by decide +kernel
theorem nl_len : (("\n" : Str).length == 0) = false := by decide +kernel
theorem isnot_tup (xs : List D) (Q : D → Prop) : OP (isNotD (.tuple xs) .none) Q = Q (.bool true) := op_some _ _
theorem isnot_non (Q : D → Prop) : OP (isNotD .none .none) Q = Q (.bool false) := op_some _ _
theorem is_tup (xs : List D) (Q : D → Prop) : OP (isD (.tuple xs) .none) Q = Q (.bool false) := op_some _ _
theorem is_non (Q : D → Prop) : OP (isD .none .none) Q = Q (.bool true) := op_some _ _
theorem reason_in_r (n : Nat) {us : List Str} {r : RsT} (hn : ∀ z ∈ us, nameB z = true) (h : RsS us r) : evF T G (n + 4) 15 [.str (rtx r)] = .ok (rsD r) := by
  refine WP.ok ?_
  rw [e15]
  refine wp_run rfl ?_
  have nm := h.names hn
  have rl := rtx_len hn h
  have q1 := name_len nm.1
  have q2 := name_len nm.2
  have s1 : ("-" : Str).length = 1 := by decide +kernel
  simp only [bd15, startE, List.map, List.replicate, List.append, List.cons_append, List.nil_append, wp_ok, op_some, op_none, bp_bool, ip_int, lp_list, tp_tup, slot_0, slot_s, WP_cB, wp_slot, wp_lit, wp_c1, wp_c2, wp_nil, wp_cons, wp_cN, wp_and, wp_or, wp_not, wp_if, wp_tup, wp_lst, wp_chain, wp_isi, wp_part0, wp_part, wp_sl, wp_call, wp_callB, wp_get, wp_idx, dc_dict, wp_seq, wp_src, wf_next, wf_brk, wf_cnt, wf_retN, wf_seq, wf_ret, wf_drop, wf_asg, wf_asgT, wf_par, wf_if, wf_app, wf_setI, tg_name, tg_tup, add_int, add_str, add_list, add_tup, sub_int, mul_int, mod_int, fdiv_int, pow_int, lt_int, le_int, gt_int, ge_int, eq_int, eq_str, ne_int, ne_str, neg_int, abs_int, int_int, int_bool, tup_list, lst_tup, lst_list, len_str, len_list, len_tup, seq_list, seq_tup, seq_str, rng1_int, rng2_int, sl_list, sl_tup, sl_str, rev_list, rev_tup, upper_str, List.set_cons_zero, List.set_cons_succ, setAll, List.length_cons, List.length_nil, Bool.false_eq_true, if_true, if_false, ite_self, eq_self, Bool.not_true, Bool.not_false, line, Nat.reduceLeDiff, Nat.reduceLT, Nat.reduceAdd, Int.reduceLT, Int.reduceLE, true_and, and_true, ixt0, ixt1, ixt2, ixt3, ixl0, ixl1, ixl2, ixl3]
  refine wp_cM1 ?_
  simp only [wp_ok, op_some, op_none, bp_bool, ip_int, lp_list, tp_tup, slot_0, slot_s, WP_cB, wp_slot, wp_lit, wp_c1, wp_c2, wp_nil, wp_cons, wp_cN, wp_and, wp_or, wp_not, wp_if, wp_tup, wp_lst, wp_chain, wp_isi, wp_part0, wp_part, wp_sl, wp_call, wp_callB, wp_get, wp_idx, dc_dict, wp_seq, wp_src, wf_next, wf_brk, wf_cnt, wf_retN, wf_seq, wf_ret, wf_drop, wf_asg, wf_asgT, wf_par, wf_if, wf_app, wf_setI, tg_name, tg_tup, add_int, add_str, add_list, add_tup, sub_int, mul_int, mod_int, fdiv_int, pow_int, lt_int, le_int, gt_int, ge_int, eq_int, eq_str, ne_int, ne_str, neg_int, abs_int, int_int, int_bool, tup_list, lst_tup, lst_list, len_str, len_list, len_tup, seq_list, seq_tup, seq_str, rng1_int, rng2_int, sl_list, sl_tup, sl_str, rev_list, rev_tup, upper_str, List.set_cons_zero, List.set_cons_succ, setAll, List.length_cons, List.length_nil, Bool.false_eq_true, if_true, if_false, ite_self, eq_self, Bool.not_true, Bool.not_false, line, Nat.reduceLeDiff, Nat.reduceLT, Nat.reduceAdd, Int.reduceLT, Int.reduceLE, true_and, and_true, ixt0, ixt1, ixt2, ixt3, ixl0, ixl1, ixl2, ixl3]
  refine ⟨_, rfl, split_str sp_len (by show _ ≤ 16777216; omega) ?_⟩
  rw [split_r hn h]
  refine wp_cM1 ?_
  simp only [List.map, wp_ok, op_some, op_none, bp_bool, ip_int, lp_list, tp_tup, slot_0, slot_s, WP_cB, wp_slot, wp_lit, wp_c1, wp_c2, wp_nil, wp_cons, wp_cN, wp_and, wp_or, wp_not, wp_if, wp_tup, wp_lst, wp_chain, wp_isi, wp_part0, wp_part, wp_sl, wp_call, wp_callB, wp_get, wp_idx, dc_dict, wp_seq, wp_src, wf_next, wf_brk, wf_cnt, wf_retN, wf_seq, wf_ret, wf_drop, wf_asg, wf_asgT, wf_par, wf_if, wf_app, wf_setI, tg_name, tg_tup, add_int, add_str, add_list, add_tup, sub_int, mul_int, mod_int, fdiv_int, pow_int, lt_int, le_int, gt_int, ge_int, eq_int, eq_str, ne_int, ne_str, neg_int, abs_int, int_int, int_bool, tup_list, lst_tup, lst_list, len_str, len_list, len_tup, seq_list, seq_tup, seq_str, rng1_int, rng2_int, sl_list, sl_tup, sl_str, rev_list, rev_tup, upper_str, List.set_cons_zero, List.set_cons_succ, setAll, List.length_cons, List.length_nil, Bool.false_eq_true, if_true, if_false, ite_self, eq_self, Bool.not_true, Bool.not_false, line, Nat.reduceLeDiff, Nat.reduceLT, Nat.reduceAdd, Int.reduceLT, Int.reduceLE, true_and, and_true, ixt0, ixt1, ixt2, ixt3, ixl0, ixl1, ixl2, ixl3]
  refine ⟨_, rfl, split_str hy_len (by show _ ≤ 16777216; rw [str_app, str_app, s1]; omega) ?_⟩
  rw [split_hy nm.1 nm.2]
  have o := h
  obtain ⟨o1, o2, _, o3, o4⟩ := h
  have na := number_ok (n + 2) (k := r.1) (by omega) (by omega)
  have nb := number_ok (n + 2) o3 o4
  simp only [List.map, wp_ok, op_some, op_none, bp_bool, ip_int, lp_list, tp_tup, slot_0, slot_s, WP_cB, wp_slot, wp_lit, wp_c1, wp_c2, wp_nil, wp_cons, wp_cN, wp_and, wp_or, wp_not, wp_if, wp_tup, wp_lst, wp_chain, wp_isi, wp_part0, wp_part, wp_sl, wp_call, wp_callB, wp_get, wp_idx, dc_dict, wp_seq, wp_src, wf_next, wf_brk, wf_cnt, wf_retN, wf_seq, wf_ret, wf_drop, wf_asg, wf_asgT, wf_par, wf_if, wf_app, wf_setI, tg_name, tg_tup, add_int, add_str, add_list, add_tup, sub_int, mul_int, mod_int, fdiv_int, pow_int, lt_int, le_int, gt_int, ge_int, eq_int, eq_str, ne_int, ne_str, neg_int, abs_int, int_int, int_bool, tup_list, lst_tup, lst_list, len_str, len_list, len_tup, seq_list, seq_tup, seq_str, rng1_int, rng2_int, sl_list, sl_tup, sl_str, rev_list, rev_tup, upper_str, List.set_cons_zero, List.set_cons_succ, setAll, List.length_cons, List.length_nil, Bool.false_eq_true, if_true, if_false, ite_self, eq_self, Bool.not_true, Bool.not_false, line, Nat.reduceLeDiff, Nat.reduceLT, Nat.reduceAdd, Int.reduceLT, Int.reduceLE, true_and, and_true, ixt0, ixt1, ixt2, ixt3, ixl0, ixl1, ixl2, ixl3, na, nb, decide_true]
  have ir := is_reason_eq n hn o
  rw [show PyData.tuple [.int r.1, .str r.2.1, .str r.2.2.1, .int r.2.2.2] = rsD r from rfl, ir]
  simp [wp_ok, op_some, op_none, bp_bool, ip_int, lp_list, tp_tup, slot_0, slot_s, WP_cB, wp_slot, wp_lit, wp_c1, wp_c2, wp_nil, wp_cons, wp_cN, wp_and, wp_or, wp_not, wp_if, wp_tup, wp_lst, wp_chain, wp_isi, wp_part0, wp_part, wp_sl, wp_call, wp_callB, wp_get, wp_idx, dc_dict, wp_seq, wp_src, wf_next, wf_brk, wf_cnt, wf_retN, wf_seq, wf_ret, wf_drop, wf_asg, wf_asgT, wf_par, wf_if, wf_app, wf_setI, tg_name, tg_tup, add_int, add_str, add_list, add_tup, sub_int, mul_int, mod_int, fdiv_int, pow_int, lt_int, le_int, gt_int, ge_int, eq_int, eq_str, ne_int, ne_str, neg_int, abs_int, int_int, int_bool, tup_list, lst_tup, lst_list, len_str, len_list, len_tup, seq_list, seq_tup, seq_str, rng1_int, rng2_int, sl_list, sl_tup, sl_str, rev_list, rev_tup, upper_str, List.set_cons_zero, List.set_cons_succ, setAll, List.length_cons, List.length_nil, Bool.false_eq_true, if_true, if_false, ite_self, eq_self, Bool.not_true, Bool.not_false, line, Nat.reduceLeDiff, Nat.reduceLT, Nat.reduceAdd, Int.reduceLT, Int.reduceLE, true_and, and_true, ixt0, ixt1, ixt2, ixt3, ixl0, ixl1, ixl2, ixl3]
theorem reason_in_b (n : Nat) {us : List Str} {r : BrT} (hn : ∀ z ∈ us, nameB z = true) (h : BrS us r) : evF T G (n + 4) 15 [.str (btx r)] = .ok .none := by
  refine WP.ok ?_
  rw [e15]
  refine wp_run rfl ?_
  have nm := h.names hn
  have rl := btx_len hn h
  have q1 := name_len nm.1
  have q2 := name_len nm.2
  have s1 : ("/" : Str).length = 1 := by decide +kernel
  simp only [bd15, startE, List.map, List.replicate, List.append, List.cons_append, List.nil_append, wp_ok, op_some, op_none, bp_bool, ip_int, lp_list, tp_tup, slot_0, slot_s, WP_cB, wp_slot, wp_lit, wp_c1, wp_c2, wp_nil, wp_cons, wp_cN, wp_and, wp_or, wp_not, wp_if, wp_tup, wp_lst, wp_chain, wp_isi, wp_part0, wp_part, wp_sl, wp_call, wp_callB, wp_get, wp_idx, dc_dict, wp_seq, wp_src, wf_next, wf_brk, wf_cnt, wf_retN, wf_seq, wf_ret, wf_drop, wf_asg, wf_asgT, wf_par, wf_if, wf_app, wf_setI, tg_name, tg_tup, add_int, add_str, add_list, add_tup, sub_int, mul_int, mod_int, fdiv_int, pow_int, lt_int, le_int, gt_int, ge_int, eq_int, eq_str, ne_int, ne_str, neg_int, abs_int, int_int, int_bool, tup_list, lst_tup, lst_list, len_str, len_list, len_tup, seq_list, seq_tup, seq_str, rng1_int, rng2_int, sl_list, sl_tup, sl_str, rev_list, rev_tup, upper_str, List.set_cons_zero, List.set_cons_succ, setAll, List.length_cons, List.length_nil, Bool.false_eq_true, if_true, if_false, ite_self, eq_self, Bool.not_true, Bool.not_false, line, Nat.reduceLeDiff, Nat.reduceLT, Nat.reduceAdd, Int.reduceLT, Int.reduceLE, true_and, and_true, ixt0, ixt1, ixt2, ixt3, ixl0, ixl1, ixl2, ixl3]
  refine wp_cM1 ?_
  simp only [wp_ok, op_some, op_none, bp_bool, ip_int, lp_list, tp_tup, slot_0, slot_s, WP_cB, wp_slot, wp_lit, wp_c1, wp_c2, wp_nil, wp_cons, wp_cN, wp_and, wp_or, wp_not, wp_if, wp_tup, wp_lst, wp_chain, wp_isi, wp_part0, wp_part, wp_sl, wp_call, wp_callB, wp_get, wp_idx, dc_dict, wp_seq, wp_src, wf_next, wf_brk, wf_cnt, wf_retN, wf_seq, wf_ret, wf_drop, wf_asg, wf_asgT, wf_par, wf_if, wf_app, wf_setI, tg_name, tg_tup, add_int, add_str, add_list, add_tup, sub_int, mul_int, mod_int, fdiv_int, pow_int, lt_int, le_int, gt_int, ge_int, eq_int, eq_str, ne_int, ne_str, neg_int, abs_int, int_int, int_bool, tup_list, lst_tup, lst_list, len_str, len_list, len_tup, seq_list, seq_tup, seq_str, rng1_int, rng2_int, sl_list, sl_tup, sl_str, rev_list, rev_tup, upper_str, List.set_cons_zero, List.set_cons_succ, setAll, List.length_cons, List.length_nil, Bool.false_eq_true, if_true, if_false, ite_self, eq_self, Bool.not_true, Bool.not_false, line, Nat.reduceLeDiff, Nat.reduceLT, Nat.reduceAdd, Int.reduceLT, Int.reduceLE, true_and, and_true, ixt0, ixt1, ixt2, ixt3, ixl0, ixl1, ixl2, ixl3]
  refine ⟨_, rfl, split_str sp_len (by show _ ≤ 16777216; omega) ?_⟩
  rw [split_b hn h]
  refine wp_cM1 ?_
  simp only [List.map, wp_ok, op_some, op_none, bp_bool, ip_int, lp_list, tp_tup, slot_0, slot_s, WP_cB, wp_slot, wp_lit, wp_c1, wp_c2, wp_nil, wp_cons, wp_cN, wp_and, wp_or, wp_not, wp_if, wp_tup, wp_lst, wp_chain, wp_isi, wp_part0, wp_part, wp_sl, wp_call, wp_callB, wp_get, wp_idx, dc_dict, wp_seq, wp_src, wf_next, wf_brk, wf_cnt, wf_retN, wf_seq, wf_ret, wf_drop, wf_asg, wf_asgT, wf_par, wf_if, wf_app, wf_setI, tg_name, tg_tup, add_int, add_str, add_list, add_tup, sub_int, mul_int, mod_int, fdiv_int, pow_int, lt_int, le_int, gt_int, ge_int, eq_int, eq_str, ne_int, ne_str, neg_int, abs_int, int_int, int_bool, tup_list, lst_tup, lst_list, len_str, len_list, len_tup, seq_list, seq_tup, seq_str, rng1_int, rng2_int, sl_list, sl_tup, sl_str, rev_list, rev_tup, upper_str, List.set_cons_zero, List.set_cons_succ, setAll, List.length_cons, List.length_nil, Bool.false_eq_true, if_true, if_false, ite_self, eq_self, Bool.not_true, Bool.not_false, line, Nat.reduceLeDiff, Nat.reduceLT, Nat.reduceAdd, Int.reduceLT, Int.reduceLE, true_and, and_true, ixt0, ixt1, ixt2, ixt3, ixl0, ixl1, ixl2, ixl3]
  refine ⟨_, rfl, split_str hy_len (by show _ ≤ 16777216; rw [str_app, str_app, s1]; omega) ?_⟩
  rw [split_sh nm.1 nm.2]
  simp [wp_ok, op_some, op_none, bp_bool, ip_int, lp_list, tp_tup, slot_0, slot_s, WP_cB, wp_slot, wp_lit, wp_c1, wp_c2, wp_nil, wp_cons, wp_cN, wp_and, wp_or, wp_not, wp_if, wp_tup, wp_lst, wp_chain, wp_isi, wp_part0, wp_part, wp_sl, wp_call, wp_callB, wp_get, wp_idx, dc_dict, wp_seq, wp_src, wf_next, wf_brk, wf_cnt, wf_retN, wf_seq, wf_ret, wf_drop, wf_asg, wf_asgT, wf_par, wf_if, wf_app, wf_setI, tg_name, tg_tup, add_int, add_str, add_list, add_tup, sub_int, mul_int, mod_int, fdiv_int, pow_int, lt_int, le_int, gt_int, ge_int, eq_int, eq_str, ne_int, ne_str, neg_int, abs_int, int_int, int_bool, tup_list, lst_tup, lst_list, len_str, len_list, len_tup, seq_list, seq_tup, seq_str, rng1_int, rng2_int, sl_list, sl_tup, sl_str, rev_list, rev_tup, upper_str, List.set_cons_zero, List.set_cons_succ, setAll, List.length_cons, List.length_nil, Bool.false_eq_true, if_true, if_false, ite_self, eq_self, Bool.not_true, Bool.not_false, line, Nat.reduceLeDiff, Nat.reduceLT, Nat.reduceAdd, Int.reduceLT, Int.reduceLE, true_and, and_true, ixt0, ixt1, ixt2, ixt3, ixl0, ixl1, ixl2, ixl3]
theorem bar_in_b (n : Nat) {us : List Str} {r : BrT} (hn : ∀ z ∈ us, nameB z = true) (h : BrS us r) : evF T G (n + 4) 16 [.str (btx r)] = .ok (brD r) := by
  refine WP.ok ?_
  rw [e16]
  refine wp_run rfl ?_
  have nm := h.names hn
  have rl := btx_len hn h
  have q1 := name_len nm.1
  have q2 := name_len nm.2
  have s1 : ("/" : Str).length = 1 := by decide +kernel
  simp only [bd16, startE, List.map, List.replicate, List.append, List.cons_append, List.nil_append, wp_ok, op_some, op_none, bp_bool, ip_int, lp_list, tp_tup, slot_0, slot_s, WP_cB, wp_slot, wp_lit, wp_c1, wp_c2, wp_nil, wp_cons, wp_cN, wp_and, wp_or, wp_not, wp_if, wp_tup, wp_lst, wp_chain, wp_isi, wp_part0, wp_part, wp_sl, wp_call, wp_callB, wp_get, wp_idx, dc_dict, wp_seq, wp_src, wf_next, wf_brk, wf_cnt, wf_retN, wf_seq, wf_ret, wf_drop, wf_asg, wf_asgT, wf_par, wf_if, wf_app, wf_setI, tg_name, tg_tup, add_int, add_str, add_list, add_tup, sub_int, mul_int, mod_int, fdiv_int, pow_int, lt_int, le_int, gt_int, ge_int, eq_int, eq_str, ne_int, ne_str, neg_int, abs_int, int_int, int_bool, tup_list, lst_tup, lst_list, len_str, len_list, len_tup, seq_list, seq_tup, seq_str, rng1_int, rng2_int, sl_list, sl_tup, sl_str, rev_list, rev_tup, upper_str, List.set_cons_zero, List.set_cons_succ, setAll, List.length_cons, List.length_nil, Bool.false_eq_true, if_true, if_false, ite_self, eq_self, Bool.not_true, Bool.not_false, line, Nat.reduceLeDiff, Nat.reduceLT, Nat.reduceAdd, Int.reduceLT, Int.reduceLE, true_and, and_true, ixt0, ixt1, ixt2, ixt3, ixl0, ixl1, ixl2, ixl3]
  refine wp_cM1 ?_
  simp only [wp_ok, op_some, op_none, bp_bool, ip_int, lp_list, tp_tup, slot_0, slot_s, WP_cB, wp_slot, wp_lit, wp_c1, wp_c2, wp_nil, wp_cons, wp_cN, wp_and, wp_or, wp_not, wp_if, wp_tup, wp_lst, wp_chain, wp_isi, wp_part0, wp_part, wp_sl, wp_call, wp_callB, wp_get, wp_idx, dc_dict, wp_seq, wp_src, wf_next, wf_brk, wf_cnt, wf_retN, wf_seq, wf_ret, wf_drop, wf_asg, wf_asgT, wf_par, wf_if, wf_app, wf_setI, tg_name, tg_tup, add_int, add_str, add_list, add_tup, sub_int, mul_int, mod_int, fdiv_int, pow_int, lt_int, le_int, gt_int, ge_int, eq_int, eq_str, ne_int, ne_str, neg_int, abs_int, int_int, int_bool, tup_list, lst_tup, lst_list, len_str, len_list, len_tup, seq_list, seq_tup, seq_str, rng1_int, rng2_int, sl_list, sl_tup, sl_str, rev_list, rev_tup, upper_str, List.set_cons_zero, List.set_cons_succ, setAll, List.length_cons, List.length_nil, Bool.false_eq_true, if_true, if_false, ite_self, eq_self, Bool.not_true, Bool.not_false, line, Nat.reduceLeDiff, Nat.reduceLT, Nat.reduceAdd, Int.reduceLT, Int.reduceLE, true_and, and_true, ixt0, ixt1, ixt2, ixt3, ixl0, ixl1, ixl2, ixl3]
  refine ⟨_, rfl, split_str sp_len (by show _ ≤ 16777216; omega) ?_⟩
  rw [split_b hn h]
  refine wp_cM1 ?_
  simp only [List.map, wp_ok, op_some, op_none, bp_bool, ip_int, lp_list, tp_tup, slot_0, slot_s, WP_cB, wp_slot, wp_lit, wp_c1, wp_c2, wp_nil, wp_cons, wp_cN, wp_and, wp_or, wp_not, wp_if, wp_tup, wp_lst, wp_chain, wp_isi, wp_part0, wp_part, wp_sl, wp_call, wp_callB, wp_get, wp_idx, dc_dict, wp_seq, wp_src, wf_next, wf_brk, wf_cnt, wf_retN, wf_seq, wf_ret, wf_drop, wf_asg, wf_asgT, wf_par, wf_if, wf_app, wf_setI, tg_name, tg_tup, add_int, add_str, add_list, add_tup, sub_int, mul_int, mod_int, fdiv_int, pow_int, lt_int, le_int, gt_int, ge_int, eq_int, eq_str, ne_int, ne_str, neg_int, abs_int, int_int, int_bool, tup_list, lst_tup, lst_list, len_str, len_list, len_tup, seq_list, seq_tup, seq_str, rng1_int, rng2_int, sl_list, sl_tup, sl_str, rev_list, rev_tup, upper_str, List.set_cons_zero, List.set_cons_succ, setAll, List.length_cons, List.length_nil, Bool.false_eq_true, if_true, if_false, ite_self, eq_self, Bool.not_true, Bool.not_false, line, Nat.reduceLeDiff, Nat.reduceLT, Nat.reduceAdd, Int.reduceLT, Int.reduceLE, true_and, and_true, ixt0, ixt1, ixt2, ixt3, ixl0, ixl1, ixl2, ixl3]
  refine ⟨_, rfl, split_str sl_len (by show _ ≤ 16777216; rw [str_app, str_app, s1]; omega) ?_⟩
  rw [split_sl nm.1 nm.2]
  have o := h
  obtain ⟨_, o3, o4⟩ := h
  have nb := number_ok (n + 2) o3 o4
  simp only [List.map, wp_ok, op_some, op_none, bp_bool, ip_int, lp_list, tp_tup, slot_0, slot_s, WP_cB, wp_slot, wp_lit, wp_c1, wp_c2, wp_nil, wp_cons, wp_cN, wp_and, wp_or, wp_not, wp_if, wp_tup, wp_lst, wp_chain, wp_isi, wp_part0, wp_part, wp_sl, wp_call, wp_callB, wp_get, wp_idx, dc_dict, wp_seq, wp_src, wf_next, wf_brk, wf_cnt, wf_retN, wf_seq, wf_ret, wf_drop, wf_asg, wf_asgT, wf_par, wf_if, wf_app, wf_setI, tg_name, tg_tup, add_int, add_str, add_list, add_tup, sub_int, mul_int, mod_int, fdiv_int, pow_int, lt_int, le_int, gt_int, ge_int, eq_int, eq_str, ne_int, ne_str, neg_int, abs_int, int_int, int_bool, tup_list, lst_tup, lst_list, len_str, len_list, len_tup, seq_list, seq_tup, seq_str, rng1_int, rng2_int, sl_list, sl_tup, sl_str, rev_list, rev_tup, upper_str, List.set_cons_zero, List.set_cons_succ, setAll, List.length_cons, List.length_nil, Bool.false_eq_true, if_true, if_false, ite_self, eq_self, Bool.not_true, Bool.not_false, line, Nat.reduceLeDiff, Nat.reduceLT, Nat.reduceAdd, Int.reduceLT, Int.reduceLE, true_and, and_true, ixt0, ixt1, ixt2, ixt3, ixl0, ixl1, ixl2, ixl3, nb, decide_true]
  have ir := is_bar_eq n hn o
  rw [show PyData.tuple [.str r.1, .str r.2.1, .int r.2.2] = brD r from rfl, ir]
  simp [wp_ok, op_some, op_none, bp_bool, ip_int, lp_list, tp_tup, slot_0, slot_s, WP_cB, wp_slot, wp_lit, wp_c1, wp_c2, wp_nil, wp_cons, wp_cN, wp_and, wp_or, wp_not, wp_if, wp_tup, wp_lst, wp_chain, wp_isi, wp_part0, wp_part, wp_sl, wp_call, wp_callB, wp_get, wp_idx, dc_dict, wp_seq, wp_src, wf_next, wf_brk, wf_cnt, wf_retN, wf_seq, wf_ret, wf_drop, wf_asg, wf_asgT, wf_par, wf_if, wf_app, wf_setI, tg_name, tg_tup, add_int, add_str, add_list, add_tup, sub_int, mul_int, mod_int, fdiv_int, pow_int, lt_int, le_int, gt_int, ge_int, eq_int, eq_str, ne_int, ne_str, neg_int, abs_int, int_int, int_bool, tup_list, lst_tup, lst_list, len_str, len_list, len_tup, seq_list, seq_tup, seq_str, rng1_int, rng2_int, sl_list, sl_tup, sl_str, rev_list, rev_tup, upper_str, List.set_cons_zero, List.set_cons_succ, setAll, List.length_cons, List.length_nil, Bool.false_eq_true, if_true, if_false, ite_self, eq_self, Bool.not_true, Bool.not_false, line, Nat.reduceLeDiff, Nat.reduceLT, Nat.reduceAdd, Int.reduceLT, Int.reduceLE, true_and, and_true, ixt0, ixt1, ixt2, ixt3, ixl0, ixl1, ixl2, ixl3]
theorem bar_in_r (n : Nat) {us : List Str} {r : RsT} (hn : ∀ z ∈ us, nameB z = true) (h : RsS us r) : evF T G (n + 4) 16 [.str (rtx r)] = .ok .none := by
  refine WP.ok ?_
  rw [e16]
  refine wp_run rfl ?_
  have nm := h.names hn
  have rl := rtx_len hn h
  have q1 := name_len nm.1
  have q2 := name_len nm.2
  have s1 : ("-" : Str).length = 1 := by decide +kernel
  simp only [bd16, startE, List.map, List.replicate, List.append, List.cons_append, List.nil_append, wp_ok, op_some, op_none, bp_bool, ip_int, lp_list, tp_tup, slot_0, slot_s, WP_cB, wp_slot, wp_lit, wp_c1, wp_c2, wp_nil, wp_cons, wp_cN, wp_and, wp_or, wp_not, wp_if, wp_tup, wp_lst, wp_chain, wp_isi, wp_part0, wp_part, wp_sl, wp_call, wp_callB, wp_get, wp_idx, dc_dict, wp_seq, wp_src, wf_next, wf_brk, wf_cnt, wf_retN, wf_seq, wf_ret, wf_drop, wf_asg, wf_asgT, wf_par, wf_if, wf_app, wf_setI, tg_name, tg_tup, add_int, add_str, add_list, add_tup, sub_int, mul_int, mod_int, fdiv_int, pow_int, lt_int, le_int, gt_int, ge_int, eq_int, eq_str, ne_int, ne_str, neg_int, abs_int, int_int, int_bool, tup_list, lst_tup, lst_list, len_str, len_list, len_tup, seq_list, seq_tup, seq_str, rng1_int, rng2_int, sl_list, sl_tup, sl_str, rev_list, rev_tup, upper_str, List.set_cons_zero, List.set_cons_succ, setAll, List.length_cons, List.length_nil, Bool.false_eq_true, if_true, if_false, ite_self, eq_self, Bool.not_true, Bool.not_false, line, Nat.reduceLeDiff, Nat.reduceLT, Nat.reduceAdd, Int.reduceLT, Int.reduceLE, true_and, and_true, ixt0, ixt1, ixt2, ixt3, ixl0, ixl1, ixl2, ixl3]
  refine wp_cM1 ?_
  simp only [wp_ok, op_some, op_none, bp_bool, ip_int, lp_list, tp_tup, slot_0, slot_s, WP_cB, wp_slot, wp_lit, wp_c1, wp_c2, wp_nil, wp_cons, wp_cN, wp_and, wp_or, wp_not, wp_if, wp_tup, wp_lst, wp_chain, wp_isi, wp_part0, wp_part, wp_sl, wp_call, wp_callB, wp_get, wp_idx, dc_dict, wp_seq, wp_src, wf_next, wf_brk, wf_cnt, wf_retN, wf_seq, wf_ret, wf_drop, wf_asg, wf_asgT, wf_par, wf_if, wf_app, wf_setI, tg_name, tg_tup, add_int, add_str, add_list, add_tup, sub_int, mul_int, mod_int, fdiv_int, pow_int, lt_int, le_int, gt_int, ge_int, eq_int, eq_str, ne_int, ne_str, neg_int, abs_int, int_int, int_bool, tup_list, lst_tup, lst_list, len_str, len_list, len_tup, seq_list, seq_tup, seq_str, rng1_int, rng2_int, sl_list, sl_tup, sl_str, rev_list, rev_tup, upper_str, List.set_cons_zero, List.set_cons_succ, setAll, List.length_cons, List.length_nil, Bool.false_eq_true, if_true, if_false, ite_self, eq_self, Bool.not_true, Bool.not_false, line, Nat.reduceLeDiff, Nat.reduceLT, Nat.reduceAdd, Int.reduceLT, Int.reduceLE, true_and, and_true, ixt0, ixt1, ixt2, ixt3, ixl0, ixl1, ixl2, ixl3]
  refine ⟨_, rfl, split_str sp_len (by show _ ≤ 16777216; omega) ?_⟩
  rw [split_r hn h]
  refine wp_cM1 ?_
  simp only [List.map, wp_ok, op_some, op_none, bp_bool, ip_int, lp_list, tp_tup, slot_0, slot_s, WP_cB, wp_slot, wp_lit, wp_c1, wp_c2, wp_nil, wp_cons, wp_cN, wp_and, wp_or, wp_not, wp_if, wp_tup, wp_lst, wp_chain, wp_isi, wp_part0, wp_part, wp_sl, wp_call, wp_callB, wp_get, wp_idx, dc_dict, wp_seq, wp_src, wf_next, wf_brk, wf_cnt, wf_retN, wf_seq, wf_ret, wf_drop, wf_asg, wf_asgT, wf_par, wf_if, wf_app, wf_setI, tg_name, tg_tup, add_int, add_str, add_list, add_tup, sub_int, mul_int, mod_int, fdiv_int, pow_int, lt_int, le_int, gt_int, ge_int, eq_int, eq_str, ne_int, ne_str, neg_int, abs_int, int_int, int_bool, tup_list, lst_tup, lst_list, len_str, len_list, len_tup, seq_list, seq_tup, seq_str, rng1_int, rng2_int, sl_list, sl_tup, sl_str, rev_list, rev_tup, upper_str, List.set_cons_zero, List.set_cons_succ, setAll, List.length_cons, List.length_nil, Bool.false_eq_true, if_true, if_false, ite_self, eq_self, Bool.not_true, Bool.not_false, line, Nat.reduceLeDiff, Nat.reduceLT, Nat.reduceAdd, Int.reduceLT, Int.reduceLE, true_and, and_true, ixt0, ixt1, ixt2, ixt3, ixl0, ixl1, ixl2, ixl3]
  refine ⟨_, rfl, split_str sl_len (by show _ ≤ 16777216; rw [str_app, str_app, s1]; omega) ?_⟩
  rw [split_hs nm.1 nm.2]
  simp [wp_ok, op_some, op_none, bp_bool, ip_int, lp_list, tp_tup, slot_0, slot_s, WP_cB, wp_slot, wp_lit, wp_c1, wp_c2, wp_nil, wp_cons, wp_cN, wp_and, wp_or, wp_not, wp_if, wp_tup, wp_lst, wp_chain, wp_isi, wp_part0, wp_part, wp_sl, wp_call, wp_callB, wp_get, wp_idx, dc_dict, wp_seq, wp_src, wf_next, wf_brk, wf_cnt, wf_retN, wf_seq, wf_ret, wf_drop, wf_asg, wf_asgT, wf_par, wf_if, wf_app, wf_setI, tg_name, tg_tup, add_int, add_str, add_list, add_tup, sub_int, mul_int, mod_int, fdiv_int, pow_int, lt_int, le_int, gt_int, ge_int, eq_int, eq_str, ne_int, ne_str, neg_int, abs_int, int_int, int_bool, tup_list, lst_tup, lst_list, len_str, len_list, len_tup, seq_list, seq_tup, seq_str, rng1_int, rng2_int, sl_list, sl_tup, sl_str, rev_list, rev_tup, upper_str, List.set_cons_zero, List.set_cons_succ, setAll, List.length_cons, List.length_nil, Bool.false_eq_true, if_true, if_false, ite_self, eq_self, Bool.not_true, Bool.not_false, line, Nat.reduceLeDiff, Nat.reduceLT, Nat.reduceAdd, Int.reduceLT, Int.reduceLE, true_and, and_true, ixt0, ixt1, ixt2, ixt3, ixl0, ixl1, ixl2, ixl3]
theorem names_in_ok (n : Nat) {us : List Str} (hn : ∀ z ∈ us, nameB z = true) (rise : adjB us = true) (few : us.length ≤ 15) : evF T G (n + 4) 17 [.str (ntx us)] = .ok (.tuple (us.map .str)) := by
  refine WP.ok ?_
  rw [e17]
  refine wp_run rfl ?_
  have nl := ntx_len hn few
  simp only [bd17, startE, List.map, List.replicate, List.append, List.cons_append, List.nil_append, wp_ok, op_some, op_none, bp_bool, ip_int, lp_list, tp_tup, slot_0, slot_s, WP_cB, wp_slot, wp_lit, wp_c1, wp_c2, wp_nil, wp_cons, wp_cN, wp_and, wp_or, wp_not, wp_if, wp_tup, wp_lst, wp_chain, wp_isi, wp_part0, wp_part, wp_sl, wp_call, wp_callB, wp_get, wp_idx, dc_dict, wp_seq, wp_src, wf_next, wf_brk, wf_cnt, wf_retN, wf_seq, wf_ret, wf_drop, wf_asg, wf_asgT, wf_par, wf_if, wf_app, wf_setI, tg_name, tg_tup, add_int, add_str, add_list, add_tup, sub_int, mul_int, mod_int, fdiv_int, pow_int, lt_int, le_int, gt_int, ge_int, eq_int, eq_str, ne_int, ne_str, neg_int, abs_int, int_int, int_bool, tup_list, lst_tup, lst_list, len_str, len_list, len_tup, seq_list, seq_tup, seq_str, rng1_int, rng2_int, sl_list, sl_tup, sl_str, rev_list, rev_tup, upper_str, List.set_cons_zero, List.set_cons_succ, setAll, List.length_cons, List.length_nil, Bool.false_eq_true, if_true, if_false, ite_self, eq_self, Bool.not_true, Bool.not_false, line, Nat.reduceLeDiff, Nat.reduceLT, Nat.reduceAdd, Int.reduceLT, Int.reduceLE, true_and, and_true, ixt0, ixt1, ixt2, ixt3, ixl0, ixl1, ixl2, ixl3]
  refine wp_cM1 ?_
  simp only [wp_ok, op_some, op_none, bp_bool, ip_int, lp_list, tp_tup, slot_0, slot_s, WP_cB, wp_slot, wp_lit, wp_c1, wp_c2, wp_nil, wp_cons, wp_cN, wp_and, wp_or, wp_not, wp_if, wp_tup, wp_lst, wp_chain, wp_isi, wp_part0, wp_part, wp_sl, wp_call, wp_callB, wp_get, wp_idx, dc_dict, wp_seq, wp_src, wf_next, wf_brk, wf_cnt, wf_retN, wf_seq, wf_ret, wf_drop, wf_asg, wf_asgT, wf_par, wf_if, wf_app, wf_setI, tg_name, tg_tup, add_int, add_str, add_list, add_tup, sub_int, mul_int, mod_int, fdiv_int, pow_int, lt_int, le_int, gt_int, ge_int, eq_int, eq_str, ne_int, ne_str, neg_int, abs_int, int_int, int_bool, tup_list, lst_tup, lst_list, len_str, len_list, len_tup, seq_list, seq_tup, seq_str, rng1_int, rng2_int, sl_list, sl_tup, sl_str, rev_list, rev_tup, upper_str, List.set_cons_zero, List.set_cons_succ, setAll, List.length_cons, List.length_nil, Bool.false_eq_true, if_true, if_false, ite_self, eq_self, Bool.not_true, Bool.not_false, line, Nat.reduceLeDiff, Nat.reduceLT, Nat.reduceAdd, Int.reduceLT, Int.reduceLE, true_and, and_true, ixt0, ixt1, ixt2, ixt3, ixl0, ixl1, ixl2, ixl3]
  refine ⟨_, rfl, split_str sp_len (by show _ ≤ 16777216; omega) ?_⟩
  rw [split_n hn]
  have cut : cutD (PyData.str ("names" : Str) :: us.map .str) (some 1) none = us.map .str := cutD_from _ 1 (by simp)
  have w : Wg (.tuple (us.map .str)) := .tup (by rw [List.length_map]; omega) fun d hd => by
    obtain ⟨z, hz, rfl⟩ := List.mem_map.mp hd
    exact name_wg (hn z hz)
  simp only [List.map, wp_ok, op_some, op_none, bp_bool, ip_int, lp_list, tp_tup, slot_0, slot_s, WP_cB, wp_slot, wp_lit, wp_c1, wp_c2, wp_nil, wp_cons, wp_cN, wp_and, wp_or, wp_not, wp_if, wp_tup, wp_lst, wp_chain, wp_isi, wp_part0, wp_part, wp_sl, wp_call, wp_callB, wp_get, wp_idx, dc_dict, wp_seq, wp_src, wf_next, wf_brk, wf_cnt, wf_retN, wf_seq, wf_ret, wf_drop, wf_asg, wf_asgT, wf_par, wf_if, wf_app, wf_setI, tg_name, tg_tup, add_int, add_str, add_list, add_tup, sub_int, mul_int, mod_int, fdiv_int, pow_int, lt_int, le_int, gt_int, ge_int, eq_int, eq_str, ne_int, ne_str, neg_int, abs_int, int_int, int_bool, tup_list, lst_tup, lst_list, len_str, len_list, len_tup, seq_list, seq_tup, seq_str, rng1_int, rng2_int, sl_list, sl_tup, sl_str, rev_list, rev_tup, upper_str, List.set_cons_zero, List.set_cons_succ, setAll, List.length_cons, List.length_nil, Bool.false_eq_true, if_true, if_false, ite_self, eq_self, Bool.not_true, Bool.not_false, line, Nat.reduceLeDiff, Nat.reduceLT, Nat.reduceAdd, Int.reduceLT, Int.reduceLE, true_and, and_true, ixt0, ixt1, ixt2, ixt3, ixl0, ixl1, ixl2, ixl3, cut, decide_true]
  rw [names_g n _ w, nms_good hn rise]
  simp only [wp_ok, op_some, op_none, bp_bool, ip_int, lp_list, tp_tup, slot_0, slot_s, WP_cB, wp_slot, wp_lit, wp_c1, wp_c2, wp_nil, wp_cons, wp_cN, wp_and, wp_or, wp_not, wp_if, wp_tup, wp_lst, wp_chain, wp_isi, wp_part0, wp_part, wp_sl, wp_call, wp_callB, wp_get, wp_idx, dc_dict, wp_seq, wp_src, wf_next, wf_brk, wf_cnt, wf_retN, wf_seq, wf_ret, wf_drop, wf_asg, wf_asgT, wf_par, wf_if, wf_app, wf_setI, tg_name, tg_tup, add_int, add_str, add_list, add_tup, sub_int, mul_int, mod_int, fdiv_int, pow_int, lt_int, le_int, gt_int, ge_int, eq_int, eq_str, ne_int, ne_str, neg_int, abs_int, int_int, int_bool, tup_list, lst_tup, lst_list, len_str, len_list, len_tup, seq_list, seq_tup, seq_str, rng1_int, rng2_int, sl_list, sl_tup, sl_str, rev_list, rev_tup, upper_str, List.set_cons_zero, List.set_cons_succ, setAll, List.length_cons, List.length_nil, Bool.false_eq_true, if_true, if_false, ite_self, eq_self, Bool.not_true, Bool.not_false, line, Nat.reduceLeDiff, Nat.reduceLT, Nat.reduceAdd, Int.reduceLT, Int.reduceLE, true_and, and_true, ixt0, ixt1, ixt2, ixt3, ixl0, ixl1, ixl2, ixl3]
theorem rank_r (n : Nat) {us : List Str} {r : RsT} (hn : ∀ z ∈ us, nameB z = true) (few : us.length ≤ 15) (h : RsS us r) : evF T G (n + 5) 18 [.str (rtx r), .tuple (us.map .str)] = .ok (rkR r) := by
  refine WP.ok ?_
  rw [e18]
  refine wp_run rfl ?_
  have nm := h.names hn
  have ends := h.2.2.1
  have an : (us.map PyData.str).all nmB = true := by
    rw [List.all_map, List.all_eq_true]; exact hn
  have i1 := in_names an (by rw [List.length_map]; omega) r.2.1 nm.1
  have i2 := in_names an (by rw [List.length_map]; omega) r.2.2.1 nm.2
  have cut : cutD [PyData.int r.1, .str r.2.1, .str r.2.2.1, .int r.2.2.2] (some 1) none = [.str r.2.1, .str r.2.2.1, .int r.2.2.2] := cutD_from _ 1 (by simp)
  have er : evF T G (n + 4) 15 [.str (rtx r)] = .ok (.tuple [.int r.1, .str r.2.1, .str r.2.2.1, .int r.2.2.2]) := reason_in_r n hn h
  simp only [bd18, startE, List.map, List.replicate, List.append, List.cons_append, List.nil_append, wp_ok, op_some, op_none, bp_bool, ip_int, lp_list, tp_tup, slot_0, slot_s, WP_cB, wp_slot, wp_lit, wp_c1, wp_c2, wp_nil, wp_cons, wp_cN, wp_and, wp_or, wp_not, wp_if, wp_tup, wp_lst, wp_chain, wp_isi, wp_part0, wp_part, wp_sl, wp_call, wp_callB, wp_get, wp_idx, dc_dict, wp_seq, wp_src, wf_next, wf_brk, wf_cnt, wf_retN, wf_seq, wf_ret, wf_drop, wf_asg, wf_asgT, wf_par, wf_if, wf_app, wf_setI, tg_name, tg_tup, add_int, add_str, add_list, add_tup, sub_int, mul_int, mod_int, fdiv_int, pow_int, lt_int, le_int, gt_int, ge_int, eq_int, eq_str, ne_int, ne_str, neg_int, abs_int, int_int, int_bool, tup_list, lst_tup, lst_list, len_str, len_list, len_tup, seq_list, seq_tup, seq_str, rng1_int, rng2_int, sl_list, sl_tup, sl_str, rev_list, rev_tup, upper_str, List.set_cons_zero, List.set_cons_succ, setAll, List.length_cons, List.length_nil, Bool.false_eq_true, if_true, if_false, ite_self, eq_self, Bool.not_true, Bool.not_false, line, Nat.reduceLeDiff, Nat.reduceLT, Nat.reduceAdd, Int.reduceLT, Int.reduceLE, true_and, and_true, ixt0, ixt1, ixt2, ixt3, ixl0, ixl1, ixl2, ixl3, er, isnot_tup, i1, i2, inN_mem ends.1, inN_mem ends.2.1, cut]
  rfl
theorem rank_b (n : Nat) {us : List Str} {r : BrT} (hn : ∀ z ∈ us, nameB z = true) (few : us.length ≤ 15) (h : BrS us r) : evF T G (n + 5) 18 [.str (btx r), .tuple (us.map .str)] = .ok (rkB r) := by
  refine WP.ok ?_
  rw [e18]
  refine wp_run rfl ?_
  have nm := h.names hn
  have ends := h.1
  have an : (us.map PyData.str).all nmB = true := by
    rw [List.all_map, List.all_eq_true]; exact hn
  have i1 := in_names an (by rw [List.length_map]; omega) r.1 nm.1
  have i2 := in_names an (by rw [List.length_map]; omega) r.2.1 nm.2
  have er := reason_in_b n hn h
  have eb : evF T G (n + 4) 16 [.str (btx r)] = .ok (.tuple [.str r.1, .str r.2.1, .int r.2.2]) := bar_in_b n hn h
  simp only [bd18, startE, List.map, List.replicate, List.append, List.cons_append, List.nil_append, wp_ok, op_some, op_none, bp_bool, ip_int, lp_list, tp_tup, slot_0, slot_s, WP_cB, wp_slot, wp_lit, wp_c1, wp_c2, wp_nil, wp_cons, wp_cN, wp_and, wp_or, wp_not, wp_if, wp_tup, wp_lst, wp_chain, wp_isi, wp_part0, wp_part, wp_sl, wp_call, wp_callB, wp_get, wp_idx, dc_dict, wp_seq, wp_src, wf_next, wf_brk, wf_cnt, wf_retN, wf_seq, wf_ret, wf_drop, wf_asg, wf_asgT, wf_par, wf_if, wf_app, wf_setI, tg_name, tg_tup, add_int, add_str, add_list, add_tup, sub_int, mul_int, mod_int, fdiv_int, pow_int, lt_int, le_int, gt_int, ge_int, eq_int, eq_str, ne_int, ne_str, neg_int, abs_int, int_int, int_bool, tup_list, lst_tup, lst_list, len_str, len_list, len_tup, seq_list, seq_tup, seq_str, rng1_int, rng2_int, sl_list, sl_tup, sl_str, rev_list, rev_tup, upper_str, List.set_cons_zero, List.set_cons_succ, setAll, List.length_cons, List.length_nil, Bool.false_eq_true, if_true, if_false, ite_self, eq_self, Bool.not_true, Bool.not_false, line, Nat.reduceLeDiff, Nat.reduceLT, Nat.reduceAdd, Int.reduceLT, Int.reduceLE, true_and, and_true, ixt0, ixt1, ixt2, ixt3, ixl0, ixl1, ixl2, ixl3, er, eb, isnot_non, isnot_tup, i1, i2, inN_mem ends.1, inN_mem ends.2.1]
  rfl
end K51

set_option Elab.async false
set_option linter.all false
set_option maxRecDepth 100000
set_option maxHeartbeats 8000000
namespace K51
open PySem Ev
open TL (tl joinL tl_join join_eq len_tl tl_append ext_tl tl_ofString mk_tl split_join partition_app)
section
variable {us : List Str} {rs : List RsT} {bs : List BrT}
theorem rank_line (n : Nat) (h : GrS us rs bs) {p : Str × D} (hp : p ∈ lines rs bs) : evF T G (n + 5) 18 [.str p.1, .tuple (us.map .str)] = .ok p.2 := by
  unfold lines at hp
  rcases List.mem_append.mp hp with hp | hp
  · obtain ⟨r, hr, rfl⟩ := List.mem_map.mp hp
    exact rank_r n h.name h.few (h.rok r hr)
  · obtain ⟨r, hr, rfl⟩ := List.mem_map.mp hp
    exact rank_b n h.name h.few (h.bok r hr)
theorem line_is (h : GrS us rs bs) {p : Str × D} (hp : p ∈ lines rs bs) (Q : D → Prop) : OP (isD p.2 .none) Q = Q (.bool false) := by
  obtain ⟨a, b, x, y, k, e, _⟩ := lines_shape h hp
  rw [e]; exact is_tup _ _
theorem row_reason (n : Nat) (h : GrS us rs bs) {z : Str} (hz : z ∈ rs.map rtx ++ bs.map btx) : WP (evF T G (n + 4) 15 [.str z]) fun d => OP (isNotD d .none) (fun b => BP b fun t => t = cR (.str z)) ∧ (cR (.str z) = true → d = gRs (.str z)) := by
  rcases List.mem_append.mp hz with hz | hz
  · obtain ⟨r, hr, rfl⟩ := List.mem_map.mp hz
    rw [reason_in_r n h.name (h.rok r hr), wp_ok, gRs_rtx h.name (h.rok r hr)]
    refine ⟨?_, fun _ => rfl⟩
    unfold rsD
    rw [isnot_tup, bp_bool]
    simp [cR, split_r h.name (h.rok r hr)]
  · obtain ⟨r, hr, rfl⟩ := List.mem_map.mp hz
    have e : cR (.str (btx r)) = false := by simp [cR, split_b h.name (h.bok r hr)]
    rw [reason_in_b n h.name (h.bok r hr), wp_ok, isnot_non, bp_bool, e]
    exact ⟨rfl, fun z => by cases z⟩
theorem row_bar (n : Nat) (h : GrS us rs bs) {z : Str} (hz : z ∈ rs.map rtx ++ bs.map btx) : WP (evF T G (n + 4) 16 [.str z]) fun d => OP (isNotD d .none) (fun b => BP b fun t => t = cBr (.str z)) ∧ (cBr (.str z) = true → d = gBr (.str z)) := by
  rcases List.mem_append.mp hz with hz | hz
  · obtain ⟨r, hr, rfl⟩ := List.mem_map.mp hz
    have e : cBr (.str (rtx r)) = false := by simp [cBr, split_r h.name (h.rok r hr)]
    rw [bar_in_r n h.name (h.rok r hr), wp_ok, isnot_non, bp_bool, e]
    exact ⟨rfl, fun z => by cases z⟩
  · obtain ⟨r, hr, rfl⟩ := List.mem_map.mp hz
    rw [bar_in_b n h.name (h.bok r hr), wp_ok, gBr_btx h.name (h.bok r hr)]
    refine ⟨?_, fun _ => rfl⟩
    unfold brD
    rw [isnot_tup, bp_bool]
    simp [cBr, split_b h.name (h.bok r hr)]
theorem read_ground_ok (n : Nat) (h : GrS us rs bs) : evF T G (n + 6) 19 [.str (gtx us rs bs)] = .ok (groundD us rs bs) := by
  refine WP.ok ?_
  rw [e19]
  refine wp_run rfl ?_
  have gl := gtx_len h
  have gl2 : (gtx us rs bs).length + 2 ≤ line := by
    have e : line = 16777216 := rfl
    rw [e]; omega
  have rl := h.rlen
  have bl := h.blen
  have ll : (lines rs bs).length = rs.length + bs.length := by simp [lines]
  simp only [bd19, bd19s1, bd19s2, bd19s3, bd19s4, bd19s5, bd19s6, startE, List.map, List.replicate, List.append, List.cons_append, List.nil_append, wp_ok, op_some, op_none, bp_bool, ip_int, lp_list, tp_tup, slot_0, slot_s, WP_cB, wp_slot, wp_lit, wp_c1, wp_c2, wp_nil, wp_cons, wp_cN, wp_and, wp_or, wp_not, wp_if, wp_tup, wp_lst, wp_chain, wp_isi, wp_part0, wp_part, wp_sl, wp_call, wp_callB, wp_get, wp_idx, dc_dict, wp_seq, wp_src, wf_next, wf_brk, wf_cnt, wf_retN, wf_seq, wf_ret, wf_drop, wf_asg, wf_asgT, wf_par, wf_if, wf_app, wf_setI, tg_name, tg_tup, add_int, add_str, add_list, add_tup, sub_int, mul_int, mod_int, fdiv_int, pow_int, lt_int, le_int, gt_int, ge_int, eq_int, eq_str, ne_int, ne_str, neg_int, abs_int, int_int, int_bool, tup_list, lst_tup, lst_list, len_str, len_list, len_tup, seq_list, seq_tup, seq_str, rng1_int, rng2_int, sl_list, sl_tup, sl_str, rev_list, rev_tup, upper_str, List.set_cons_zero, List.set_cons_succ, setAll, List.length_cons, List.length_nil, Bool.false_eq_true, if_true, if_false, ite_self, eq_self, Bool.not_true, Bool.not_false, line, Nat.reduceLeDiff, Nat.reduceLT, Nat.reduceAdd, Int.reduceLT, Int.reduceLE, true_and, and_true, ixt0, ixt1, ixt2, ixt3, ixl0, ixl1, ixl2, ixl3, isiB, tyN, beq_self_eq_true]
  refine wp_cM1 ?_
  simp only [wp_ok, op_some, op_none, bp_bool, ip_int, lp_list, tp_tup, slot_0, slot_s, WP_cB, wp_slot, wp_lit, wp_c1, wp_c2, wp_nil, wp_cons, wp_cN, wp_and, wp_or, wp_not, wp_if, wp_tup, wp_lst, wp_chain, wp_isi, wp_part0, wp_part, wp_sl, wp_call, wp_callB, wp_get, wp_idx, dc_dict, wp_seq, wp_src, wf_next, wf_brk, wf_cnt, wf_retN, wf_seq, wf_ret, wf_drop, wf_asg, wf_asgT, wf_par, wf_if, wf_app, wf_setI, tg_name, tg_tup, add_int, add_str, add_list, add_tup, sub_int, mul_int, mod_int, fdiv_int, pow_int, lt_int, le_int, gt_int, ge_int, eq_int, eq_str, ne_int, ne_str, neg_int, abs_int, int_int, int_bool, tup_list, lst_tup, lst_list, len_str, len_list, len_tup, seq_list, seq_tup, seq_str, rng1_int, rng2_int, sl_list, sl_tup, sl_str, rev_list, rev_tup, upper_str, List.set_cons_zero, List.set_cons_succ, setAll, List.length_cons, List.length_nil, Bool.false_eq_true, if_true, if_false, ite_self, eq_self, Bool.not_true, Bool.not_false, line, Nat.reduceLeDiff, Nat.reduceLT, Nat.reduceAdd, Int.reduceLT, Int.reduceLE, true_and, and_true, ixt0, ixt1, ixt2, ixt3, ixl0, ixl1, ixl2, ixl3]
  refine ⟨gtx us rs bs, rfl, ?_⟩
  refine split_str nl_len gl2 ?_
  rw [split_g h]
  have e3 : (rows3 us rs bs).map PyData.str = .str (ntx us) :: ((lines rs bs).map (·.1)).map .str := by
    rw [lines_fst]
    unfold rows3
    rw [List.map_cons]
  rw [e3]
  have nm := names_in_ok (n + 1) h.name h.rise h.few
  simp only [wp_ok, op_some, op_none, bp_bool, ip_int, lp_list, tp_tup, slot_0, slot_s, WP_cB, wp_slot, wp_lit, wp_c1, wp_c2, wp_nil, wp_cons, wp_cN, wp_and, wp_or, wp_not, wp_if, wp_tup, wp_lst, wp_chain, wp_isi, wp_part0, wp_part, wp_sl, wp_call, wp_callB, wp_get, wp_idx, dc_dict, wp_seq, wp_src, wf_next, wf_brk, wf_cnt, wf_retN, wf_seq, wf_ret, wf_drop, wf_asg, wf_asgT, wf_par, wf_if, wf_app, wf_setI, tg_name, tg_tup, add_int, add_str, add_list, add_tup, sub_int, mul_int, mod_int, fdiv_int, pow_int, lt_int, le_int, gt_int, ge_int, eq_int, eq_str, ne_int, ne_str, neg_int, abs_int, int_int, int_bool, tup_list, lst_tup, lst_list, len_str, len_list, len_tup, seq_list, seq_tup, seq_str, rng1_int, rng2_int, sl_list, sl_tup, sl_str, rev_list, rev_tup, upper_str, List.set_cons_zero, List.set_cons_succ, setAll, List.length_cons, List.length_nil, Bool.false_eq_true, if_true, if_false, ite_self, eq_self, Bool.not_true, Bool.not_false, line, Nat.reduceLeDiff, Nat.reduceLT, Nat.reduceAdd, Int.reduceLT, Int.reduceLE, true_and, and_true, ixt0, ixt1, ixt2, ixt3, ixl0, ixl1, ixl2, ixl3, nm, List.length_map, ll]
  refine wf_for (fun ds j ρ => ∃ (l3 : D) (k4 k5 : Option D), ρ = [some (.str (gtx us rs bs)), some (.list (.str (ntx us) :: ((lines rs bs).map (·.1)).map .str)), some (.tuple (us.map .str)), some l3, k4, k5, none, none] ∧ ∀ i, j = i + 1 → ∃ p, (lines rs bs)[i]? = some p ∧ l3 = p.2) ?_
  simp only [wp_ok, op_some, op_none, bp_bool, ip_int, lp_list, tp_tup, slot_0, slot_s, WP_cB, wp_slot, wp_lit, wp_c1, wp_c2, wp_nil, wp_cons, wp_cN, wp_and, wp_or, wp_not, wp_if, wp_tup, wp_lst, wp_chain, wp_isi, wp_part0, wp_part, wp_sl, wp_call, wp_callB, wp_get, wp_idx, dc_dict, wp_seq, wp_src, wf_next, wf_brk, wf_cnt, wf_retN, wf_seq, wf_ret, wf_drop, wf_asg, wf_asgT, wf_par, wf_if, wf_app, wf_setI, tg_name, tg_tup, add_int, add_str, add_list, add_tup, sub_int, mul_int, mod_int, fdiv_int, pow_int, lt_int, le_int, gt_int, ge_int, eq_int, eq_str, ne_int, ne_str, neg_int, abs_int, int_int, int_bool, tup_list, lst_tup, lst_list, len_str, len_list, len_tup, seq_list, seq_tup, seq_str, rng1_int, rng2_int, sl_list, sl_tup, sl_str, rev_list, rev_tup, upper_str, List.set_cons_zero, List.set_cons_succ, setAll, List.length_cons, List.length_nil, Bool.false_eq_true, if_true, if_false, ite_self, eq_self, Bool.not_true, Bool.not_false, line, Nat.reduceLeDiff, Nat.reduceLT, Nat.reduceAdd, Int.reduceLT, Int.reduceLE, true_and, and_true, ixt0, ixt1, ixt2, ixt3, ixl0, ixl1, ixl2, ixl3, List.length_map, ll]
  refine ⟨by rw [Bool.and_eq_true]; exact ⟨in62_of' (by omega) (by omega), in62_of' (by omega) (by omega)⟩, ⟨_, _, _, rfl, fun i hi => by omega⟩, fun j d ρ hj ⟨l3, k4, k5, e, hl⟩ => ?_, fun ρ ⟨l3, k4, k5, e, hl⟩ => ?_⟩
  · obtain ⟨hj1, rfl⟩ := range_get hj
    have hj2 : j < (lines rs bs).length := by omega
    subst e
    have hp : (lines rs bs)[j]? = some (lines rs bs)[j] := List.getElem?_eq_getElem hj2
    have hm : (lines rs bs)[j] ∈ lines rs bs := List.getElem_mem hj2
    generalize (lines rs bs)[j] = p at hp hm
    have rk := rank_line n h hm
    simp only [wp_ok, op_some, op_none, bp_bool, ip_int, lp_list, tp_tup, slot_0, slot_s, WP_cB, wp_slot, wp_lit, wp_c1, wp_c2, wp_nil, wp_cons, wp_cN, wp_and, wp_or, wp_not, wp_if, wp_tup, wp_lst, wp_chain, wp_isi, wp_part0, wp_part, wp_sl, wp_call, wp_callB, wp_get, wp_idx, dc_dict, wp_seq, wp_src, wf_next, wf_brk, wf_cnt, wf_retN, wf_seq, wf_ret, wf_drop, wf_asg, wf_asgT, wf_par, wf_if, wf_app, wf_setI, tg_name, tg_tup, add_int, add_str, add_list, add_tup, sub_int, mul_int, mod_int, fdiv_int, pow_int, lt_int, le_int, gt_int, ge_int, eq_int, eq_str, ne_int, ne_str, neg_int, abs_int, int_int, int_bool, tup_list, lst_tup, lst_list, len_str, len_list, len_tup, seq_list, seq_tup, seq_str, rng1_int, rng2_int, sl_list, sl_tup, sl_str, rev_list, rev_tup, upper_str, List.set_cons_zero, List.set_cons_succ, setAll, List.length_cons, List.length_nil, Bool.false_eq_true, if_true, if_false, ite_self, eq_self, Bool.not_true, Bool.not_false, line, Nat.reduceLeDiff, Nat.reduceLT, Nat.reduceAdd, Int.reduceLT, Int.reduceLE, true_and, and_true, ixt0, ixt1, ixt2, ixt3, ixl0, ixl1, ixl2, ixl3]
    refine ix_list ⟨j + 1, by omega, .str p.1, by rw [List.getElem?_cons_succ, List.getElem?_map, List.getElem?_map, hp]; rfl, ?_⟩
    simp only [wp_ok, op_some, op_none, bp_bool, ip_int, lp_list, tp_tup, slot_0, slot_s, WP_cB, wp_slot, wp_lit, wp_c1, wp_c2, wp_nil, wp_cons, wp_cN, wp_and, wp_or, wp_not, wp_if, wp_tup, wp_lst, wp_chain, wp_isi, wp_part0, wp_part, wp_sl, wp_call, wp_callB, wp_get, wp_idx, dc_dict, wp_seq, wp_src, wf_next, wf_brk, wf_cnt, wf_retN, wf_seq, wf_ret, wf_drop, wf_asg, wf_asgT, wf_par, wf_if, wf_app, wf_setI, tg_name, tg_tup, add_int, add_str, add_list, add_tup, sub_int, mul_int, mod_int, fdiv_int, pow_int, lt_int, le_int, gt_int, ge_int, eq_int, eq_str, ne_int, ne_str, neg_int, abs_int, int_int, int_bool, tup_list, lst_tup, lst_list, len_str, len_list, len_tup, seq_list, seq_tup, seq_str, rng1_int, rng2_int, sl_list, sl_tup, sl_str, rev_list, rev_tup, upper_str, List.set_cons_zero, List.set_cons_succ, setAll, List.length_cons, List.length_nil, Bool.false_eq_true, if_true, if_false, ite_self, eq_self, Bool.not_true, Bool.not_false, line, Nat.reduceLeDiff, Nat.reduceLT, Nat.reduceAdd, Int.reduceLT, Int.reduceLE, true_and, and_true, ixt0, ixt1, ixt2, ixt3, ixl0, ixl1, ixl2, ixl3, rk, line_is h hm]
    have keep : ∃ (l3' : D) (k4' k5' : Option D), [some (PyData.str (gtx us rs bs)), some (.list (.str (ntx us) :: ((lines rs bs).map (·.1)).map .str)), some (.tuple (us.map .str)), some p.2, some (.int (1 + (j : Int))), some p.2, none, none] = [some (.str (gtx us rs bs)), some (.list (.str (ntx us) :: ((lines rs bs).map (·.1)).map .str)), some (.tuple (us.map .str)), some l3', k4', k5', none, none] ∧ ∀ i, j + 1 = i + 1 → ∃ p, (lines rs bs)[i]? = some p ∧ l3' = p.2 :=
      ⟨_, _, _, rfl, fun i hi => ⟨p, by rw [← hp]; congr 1; omega, rfl⟩⟩
    by_cases hj0 : j = 0
    · have : ¬ ((1 : Int) < 1 + (j : Nat)) := by omega
      simp only [this, decide_false, wp_ok, op_some, op_none, bp_bool, ip_int, lp_list, tp_tup, slot_0, slot_s, WP_cB, wp_slot, wp_lit, wp_c1, wp_c2, wp_nil, wp_cons, wp_cN, wp_and, wp_or, wp_not, wp_if, wp_tup, wp_lst, wp_chain, wp_isi, wp_part0, wp_part, wp_sl, wp_call, wp_callB, wp_get, wp_idx, dc_dict, wp_seq, wp_src, wf_next, wf_brk, wf_cnt, wf_retN, wf_seq, wf_ret, wf_drop, wf_asg, wf_asgT, wf_par, wf_if, wf_app, wf_setI, tg_name, tg_tup, add_int, add_str, add_list, add_tup, sub_int, mul_int, mod_int, fdiv_int, pow_int, lt_int, le_int, gt_int, ge_int, eq_int, eq_str, ne_int, ne_str, neg_int, abs_int, int_int, int_bool, tup_list, lst_tup, lst_list, len_str, len_list, len_tup, seq_list, seq_tup, seq_str, rng1_int, rng2_int, sl_list, sl_tup, sl_str, rev_list, rev_tup, upper_str, List.set_cons_zero, List.set_cons_succ, setAll, List.length_cons, List.length_nil, Bool.false_eq_true, if_true, if_false, ite_self, eq_self, Bool.not_true, Bool.not_false, line, Nat.reduceLeDiff, Nat.reduceLT, Nat.reduceAdd, Int.reduceLT, Int.reduceLE, true_and, and_true, ixt0, ixt1, ixt2, ixt3, ixl0, ixl1, ixl2, ixl3]
      exact keep
    · have : ((1 : Int) < 1 + (j : Nat)) := by omega
      simp only [this, decide_true, wp_ok, op_some, op_none, bp_bool, ip_int, lp_list, tp_tup, slot_0, slot_s, WP_cB, wp_slot, wp_lit, wp_c1, wp_c2, wp_nil, wp_cons, wp_cN, wp_and, wp_or, wp_not, wp_if, wp_tup, wp_lst, wp_chain, wp_isi, wp_part0, wp_part, wp_sl, wp_call, wp_callB, wp_get, wp_idx, dc_dict, wp_seq, wp_src, wf_next, wf_brk, wf_cnt, wf_retN, wf_seq, wf_ret, wf_drop, wf_asg, wf_asgT, wf_par, wf_if, wf_app, wf_setI, tg_name, tg_tup, add_int, add_str, add_list, add_tup, sub_int, mul_int, mod_int, fdiv_int, pow_int, lt_int, le_int, gt_int, ge_int, eq_int, eq_str, ne_int, ne_str, neg_int, abs_int, int_int, int_bool, tup_list, lst_tup, lst_list, len_str, len_list, len_tup, seq_list, seq_tup, seq_str, rng1_int, rng2_int, sl_list, sl_tup, sl_str, rev_list, rev_tup, upper_str, List.set_cons_zero, List.set_cons_succ, setAll, List.length_cons, List.length_nil, Bool.false_eq_true, if_true, if_false, ite_self, eq_self, Bool.not_true, Bool.not_false, line, Nat.reduceLeDiff, Nat.reduceLT, Nat.reduceAdd, Int.reduceLT, Int.reduceLE, true_and, and_true, ixt0, ixt1, ixt2, ixt3, ixl0, ixl1, ixl2, ixl3]
      obtain ⟨q, hq, rfl⟩ := hl (j - 1) (by omega)
      have hqm := List.mem_of_getElem? hq
      rw [le_lines h hm hqm]
      have pw := List.pairwise_iff_getElem.mp (lines_rise h) (j - 1) j (by omega) hj2 (by omega)
      obtain ⟨_, hq'⟩ := List.getElem?_eq_some_iff.mp hq
      obtain ⟨_, hp'⟩ := List.getElem?_eq_some_iff.mp hp
      rw [hq', hp'] at pw
      rw [pw]
      simp only [wp_ok, op_some, op_none, bp_bool, ip_int, lp_list, tp_tup, slot_0, slot_s, WP_cB, wp_slot, wp_lit, wp_c1, wp_c2, wp_nil, wp_cons, wp_cN, wp_and, wp_or, wp_not, wp_if, wp_tup, wp_lst, wp_chain, wp_isi, wp_part0, wp_part, wp_sl, wp_call, wp_callB, wp_get, wp_idx, dc_dict, wp_seq, wp_src, wf_next, wf_brk, wf_cnt, wf_retN, wf_seq, wf_ret, wf_drop, wf_asg, wf_asgT, wf_par, wf_if, wf_app, wf_setI, tg_name, tg_tup, add_int, add_str, add_list, add_tup, sub_int, mul_int, mod_int, fdiv_int, pow_int, lt_int, le_int, gt_int, ge_int, eq_int, eq_str, ne_int, ne_str, neg_int, abs_int, int_int, int_bool, tup_list, lst_tup, lst_list, len_str, len_list, len_tup, seq_list, seq_tup, seq_str, rng1_int, rng2_int, sl_list, sl_tup, sl_str, rev_list, rev_tup, upper_str, List.set_cons_zero, List.set_cons_succ, setAll, List.length_cons, List.length_nil, Bool.false_eq_true, if_true, if_false, ite_self, eq_self, Bool.not_true, Bool.not_false, line, Nat.reduceLeDiff, Nat.reduceLT, Nat.reduceAdd, Int.reduceLT, Int.reduceLE, true_and, and_true, ixt0, ixt1, ixt2, ixt3, ixl0, ixl1, ixl2, ixl3]
      exact keep
  · subst e
    have cut : cutD (PyData.str (ntx us) :: ((lines rs bs).map (·.1)).map .str) (some 1) none = ((lines rs bs).map (·.1)).map .str := cutD_from _ 1 (by simp)
    simp only [wp_ok, op_some, op_none, bp_bool, ip_int, lp_list, tp_tup, slot_0, slot_s, WP_cB, wp_slot, wp_lit, wp_c1, wp_c2, wp_nil, wp_cons, wp_cN, wp_and, wp_or, wp_not, wp_if, wp_tup, wp_lst, wp_chain, wp_isi, wp_part0, wp_part, wp_sl, wp_call, wp_callB, wp_get, wp_idx, dc_dict, wp_seq, wp_src, wf_next, wf_brk, wf_cnt, wf_retN, wf_seq, wf_ret, wf_drop, wf_asg, wf_asgT, wf_par, wf_if, wf_app, wf_setI, tg_name, tg_tup, add_int, add_str, add_list, add_tup, sub_int, mul_int, mod_int, fdiv_int, pow_int, lt_int, le_int, gt_int, ge_int, eq_int, eq_str, ne_int, ne_str, neg_int, abs_int, int_int, int_bool, tup_list, lst_tup, lst_list, len_str, len_list, len_tup, seq_list, seq_tup, seq_str, rng1_int, rng2_int, sl_list, sl_tup, sl_str, rev_list, rev_tup, upper_str, List.set_cons_zero, List.set_cons_succ, setAll, List.length_cons, List.length_nil, Bool.false_eq_true, if_true, if_false, ite_self, eq_self, Bool.not_true, Bool.not_false, line, Nat.reduceLeDiff, Nat.reduceLT, Nat.reduceAdd, Int.reduceLT, Int.reduceLE, true_and, and_true, ixt0, ixt1, ixt2, ixt3, ixl0, ixl1, ixl2, ixl3]
    refine wp_compF cR gRs ?_
    simp only [wp_ok, op_some, op_none, bp_bool, ip_int, lp_list, tp_tup, slot_0, slot_s, WP_cB, wp_slot, wp_lit, wp_c1, wp_c2, wp_nil, wp_cons, wp_cN, wp_and, wp_or, wp_not, wp_if, wp_tup, wp_lst, wp_chain, wp_isi, wp_part0, wp_part, wp_sl, wp_call, wp_callB, wp_get, wp_idx, dc_dict, wp_seq, wp_src, wf_next, wf_brk, wf_cnt, wf_retN, wf_seq, wf_ret, wf_drop, wf_asg, wf_asgT, wf_par, wf_if, wf_app, wf_setI, tg_name, tg_tup, add_int, add_str, add_list, add_tup, sub_int, mul_int, mod_int, fdiv_int, pow_int, lt_int, le_int, gt_int, ge_int, eq_int, eq_str, ne_int, ne_str, neg_int, abs_int, int_int, int_bool, tup_list, lst_tup, lst_list, len_str, len_list, len_tup, seq_list, seq_tup, seq_str, rng1_int, rng2_int, sl_list, sl_tup, sl_str, rev_list, rev_tup, upper_str, List.set_cons_zero, List.set_cons_succ, setAll, List.length_cons, List.length_nil, Bool.false_eq_true, if_true, if_false, ite_self, eq_self, Bool.not_true, Bool.not_false, line, Nat.reduceLeDiff, Nat.reduceLT, Nat.reduceAdd, Int.reduceLT, Int.reduceLE, true_and, and_true, ixt0, ixt1, ixt2, ixt3, ixl0, ixl1, ixl2, ixl3, cut, List.length_map, ll]
    rw [lines_fst]
    refine ⟨by omega, fun d hd => ?_, ?_⟩
    · obtain ⟨z, hz, rfl⟩ := List.mem_map.mp hd
      refine ⟨(row_reason (n + 1) h hz).imp fun d w => ?_, fun c => (row_reason (n + 1) h hz).imp fun d w => ?_⟩
      · exact w.1
      · exact w.2 c
    rw [read_rs h]
    refine wp_compF cBr gBr ?_
    rw [← lines_fst]
    simp only [wp_ok, op_some, op_none, bp_bool, ip_int, lp_list, tp_tup, slot_0, slot_s, WP_cB, wp_slot, wp_lit, wp_c1, wp_c2, wp_nil, wp_cons, wp_cN, wp_and, wp_or, wp_not, wp_if, wp_tup, wp_lst, wp_chain, wp_isi, wp_part0, wp_part, wp_sl, wp_call, wp_callB, wp_get, wp_idx, dc_dict, wp_seq, wp_src, wf_next, wf_brk, wf_cnt, wf_retN, wf_seq, wf_ret, wf_drop, wf_asg, wf_asgT, wf_par, wf_if, wf_app, wf_setI, tg_name, tg_tup, add_int, add_str, add_list, add_tup, sub_int, mul_int, mod_int, fdiv_int, pow_int, lt_int, le_int, gt_int, ge_int, eq_int, eq_str, ne_int, ne_str, neg_int, abs_int, int_int, int_bool, tup_list, lst_tup, lst_list, len_str, len_list, len_tup, seq_list, seq_tup, seq_str, rng1_int, rng2_int, sl_list, sl_tup, sl_str, rev_list, rev_tup, upper_str, List.set_cons_zero, List.set_cons_succ, setAll, List.length_cons, List.length_nil, Bool.false_eq_true, if_true, if_false, ite_self, eq_self, Bool.not_true, Bool.not_false, line, Nat.reduceLeDiff, Nat.reduceLT, Nat.reduceAdd, Int.reduceLT, Int.reduceLE, true_and, and_true, ixt0, ixt1, ixt2, ixt3, ixl0, ixl1, ixl2, ixl3, cut, List.length_map, ll]
    rw [lines_fst]
    refine ⟨by omega, fun d hd => ?_, ?_⟩
    · obtain ⟨z, hz, rfl⟩ := List.mem_map.mp hd
      refine ⟨(row_bar (n + 1) h hz).imp fun d w => ?_, fun c => (row_bar (n + 1) h hz).imp fun d w => ?_⟩
      · exact w.1
      · exact w.2 c
    rw [read_bs h]
    rfl
end
end K51

set_option Elab.async false
set_option linter.all false
set_option maxRecDepth 100000
set_option maxHeartbeats 8000000
namespace K51
open PySem Ev
open TL (tl joinL tl_join join_eq len_tl tl_append ext_tl tl_ofString mk_tl split_join partition_app)
section
variable {us : List Str} {rs : List RsT} {bs : List BrT}
theorem rs_at {j : Nat} {d : D} (h : (rs.map rsD)[j]? = some d) : ∃ r, rs[j]? = some r ∧ r ∈ rs ∧ d = .tuple [.int r.1, .str r.2.1, .str r.2.2.1, .int r.2.2.2] := by
  rw [List.getElem?_map] at h
  obtain ⟨r, hr, rfl⟩ := Option.map_eq_some_iff.mp h
  exact ⟨r, hr, List.mem_of_getElem? hr, rfl⟩
theorem bs_at {j : Nat} {d : D} (h : (bs.map brD)[j]? = some d) : ∃ r, bs[j]? = some r ∧ r ∈ bs ∧ d = .tuple [.str r.1, .str r.2.1, .int r.2.2] := by
  rw [List.getElem?_map] at h
  obtain ⟨r, hr, rfl⟩ := Option.map_eq_some_iff.mp h
  exact ⟨r, hr, List.mem_of_getElem? hr, rfl⟩
theorem take_one {α : Type} {l : List α} {j : Nat} {a : α} (h : l[j]? = some a) : l.take (j + 1) = l.take j ++ [a] := by
  rw [List.take_succ, h]; rfl
theorem law_text_ok (n : Nat) (h : GrS us rs bs) : evF T G (n + 1) 25 [groundD us rs bs] = .ok (.str (gtx us rs bs)) := by
  refine WP.ok ?_
  rw [e25]
  refine wp_run rfl ?_
  have few := h.few
  have rl := h.rlen
  have bl := h.blen
  have s1 : ("-" : Str).length = 1 := by decide +kernel
  have s2 : (" " : Str).length = 1 := by decide +kernel
  have s3 : ("/" : Str).length = 1 := by decide +kernel
  simp only [bd25, groundD, startE, List.map, List.replicate, List.append, List.cons_append, List.nil_append, wp_ok, op_some, op_none, bp_bool, ip_int, lp_list, tp_tup, slot_0, slot_s, WP_cB, wp_slot, wp_lit, wp_c1, wp_c2, wp_nil, wp_cons, wp_cN, wp_and, wp_or, wp_not, wp_if, wp_tup, wp_lst, wp_chain, wp_isi, wp_part0, wp_part, wp_sl, wp_call, wp_callB, wp_get, wp_idx, dc_dict, wp_seq, wp_src, wf_next, wf_brk, wf_cnt, wf_retN, wf_seq, wf_ret, wf_drop, wf_asg, wf_asgT, wf_par, wf_if, wf_app, wf_setI, tg_name, tg_tup, add_int, add_str, add_list, add_tup, sub_int, mul_int, mod_int, fdiv_int, pow_int, lt_int, le_int, gt_int, ge_int, eq_int, eq_str, ne_int, ne_str, neg_int, abs_int, int_int, int_bool, tup_list, lst_tup, lst_list, len_str, len_list, len_tup, seq_list, seq_tup, seq_str, rng1_int, rng2_int, sl_list, sl_tup, sl_str, rev_list, rev_tup, upper_str, List.set_cons_zero, List.set_cons_succ, setAll, List.length_cons, List.length_nil, Bool.false_eq_true, if_true, if_false, ite_self, eq_self, Bool.not_true, Bool.not_false, line, Nat.reduceLeDiff, Nat.reduceLT, Nat.reduceAdd, Int.reduceLT, Int.reduceLE, true_and, and_true, ixt0, ixt1, ixt2, ixt3, ixl0, ixl1, ixl2, ixl3]
  refine wp_cM1 ?_
  rw [wp_lit]
  refine ⟨_, rfl, ?_⟩
  simp only [wp_ok, op_some, op_none, bp_bool, ip_int, lp_list, tp_tup, slot_0, slot_s, WP_cB, wp_slot, wp_lit, wp_c1, wp_c2, wp_nil, wp_cons, wp_cN, wp_and, wp_or, wp_not, wp_if, wp_tup, wp_lst, wp_chain, wp_isi, wp_part0, wp_part, wp_sl, wp_call, wp_callB, wp_get, wp_idx, dc_dict, wp_seq, wp_src, wf_next, wf_brk, wf_cnt, wf_retN, wf_seq, wf_ret, wf_drop, wf_asg, wf_asgT, wf_par, wf_if, wf_app, wf_setI, tg_name, tg_tup, add_int, add_str, add_list, add_tup, sub_int, mul_int, mod_int, fdiv_int, pow_int, lt_int, le_int, gt_int, ge_int, eq_int, eq_str, ne_int, ne_str, neg_int, abs_int, int_int, int_bool, tup_list, lst_tup, lst_list, len_str, len_list, len_tup, seq_list, seq_tup, seq_str, rng1_int, rng2_int, sl_list, sl_tup, sl_str, rev_list, rev_tup, upper_str, List.set_cons_zero, List.set_cons_succ, setAll, List.length_cons, List.length_nil, Bool.false_eq_true, if_true, if_false, ite_self, eq_self, Bool.not_true, Bool.not_false, line, Nat.reduceLeDiff, Nat.reduceLT, Nat.reduceAdd, Int.reduceLT, Int.reduceLE, true_and, and_true, ixt0, ixt1, ixt2, ixt3, ixl0, ixl1, ixl2, ixl3, List.length_map]
  repeat refine And.intro (by omega) ?_
  refine ntx_ok h.name few ?_
  refine wf_for (fun ds j ρ => ∃ (k2 k3 k4 k5 : Option D), ρ = [some (groundD us rs bs), some (.list ((ntx us :: (rs.take j).map rtx).map .str)), k2, k3, k4, k5]) ?_
  simp only [groundD, wp_ok, op_some, op_none, bp_bool, ip_int, lp_list, tp_tup, slot_0, slot_s, WP_cB, wp_slot, wp_lit, wp_c1, wp_c2, wp_nil, wp_cons, wp_cN, wp_and, wp_or, wp_not, wp_if, wp_tup, wp_lst, wp_chain, wp_isi, wp_part0, wp_part, wp_sl, wp_call, wp_callB, wp_get, wp_idx, dc_dict, wp_seq, wp_src, wf_next, wf_brk, wf_cnt, wf_retN, wf_seq, wf_ret, wf_drop, wf_asg, wf_asgT, wf_par, wf_if, wf_app, wf_setI, tg_name, tg_tup, add_int, add_str, add_list, add_tup, sub_int, mul_int, mod_int, fdiv_int, pow_int, lt_int, le_int, gt_int, ge_int, eq_int, eq_str, ne_int, ne_str, neg_int, abs_int, int_int, int_bool, tup_list, lst_tup, lst_list, len_str, len_list, len_tup, seq_list, seq_tup, seq_str, rng1_int, rng2_int, sl_list, sl_tup, sl_str, rev_list, rev_tup, upper_str, List.set_cons_zero, List.set_cons_succ, setAll, List.length_cons, List.length_nil, Bool.false_eq_true, if_true, if_false, ite_self, eq_self, Bool.not_true, Bool.not_false, line, Nat.reduceLeDiff, Nat.reduceLT, Nat.reduceAdd, Int.reduceLT, Int.reduceLE, true_and, and_true, ixt0, ixt1, ixt2, ixt3, ixl0, ixl1, ixl2, ixl3]
  refine ⟨⟨_, _, _, _, rfl⟩, fun j d ρ hj ⟨k2, k3, k4, k5, e⟩ => ?_, fun ρ ⟨k2, k3, k4, k5, e⟩ => ?_⟩
  · obtain ⟨r, hr, hm, rfl⟩ := rs_at hj
    subst e
    have ok := h.rok r hm
    have nm := ok.names h.name
    have q1 := name_len nm.1
    have q2 := name_len nm.2
    obtain ⟨o1, o2, _, o3, o4⟩ := ok
    have m1 := num_len6 (k := r.1) (by omega) (by omega)
    have m2 := num_len6 o3 o4
    have tk := List.length_take_le j rs
    simp only [wp_ok, op_some, op_none, bp_bool, ip_int, lp_list, tp_tup, slot_0, slot_s, WP_cB, wp_slot, wp_lit, wp_c1, wp_c2, wp_nil, wp_cons, wp_cN, wp_and, wp_or, wp_not, wp_if, wp_tup, wp_lst, wp_chain, wp_isi, wp_part0, wp_part, wp_sl, wp_call, wp_callB, wp_get, wp_idx, dc_dict, wp_seq, wp_src, wf_next, wf_brk, wf_cnt, wf_retN, wf_seq, wf_ret, wf_drop, wf_asg, wf_asgT, wf_par, wf_if, wf_app, wf_setI, tg_name, tg_tup, add_int, add_str, add_list, add_tup, sub_int, mul_int, mod_int, fdiv_int, pow_int, lt_int, le_int, gt_int, ge_int, eq_int, eq_str, ne_int, ne_str, neg_int, abs_int, int_int, int_bool, tup_list, lst_tup, lst_list, len_str, len_list, len_tup, seq_list, seq_tup, seq_str, rng1_int, rng2_int, sl_list, sl_tup, sl_str, rev_list, rev_tup, upper_str, List.set_cons_zero, List.set_cons_succ, setAll, List.length_cons, List.length_nil, Bool.false_eq_true, if_true, if_false, ite_self, eq_self, Bool.not_true, Bool.not_false, line, Nat.reduceLeDiff, Nat.reduceLT, Nat.reduceAdd, Int.reduceLT, Int.reduceLE, true_and, and_true, ixt0, ixt1, ixt2, ixt3, ixl0, ixl1, ixl2, ixl3, str_app, s1, s2]
    repeat refine And.intro (by omega) ?_
    rw [str_num (by omega) (by omega)]
    simp only [wp_ok, op_some, op_none, bp_bool, ip_int, lp_list, tp_tup, slot_0, slot_s, WP_cB, wp_slot, wp_lit, wp_c1, wp_c2, wp_nil, wp_cons, wp_cN, wp_and, wp_or, wp_not, wp_if, wp_tup, wp_lst, wp_chain, wp_isi, wp_part0, wp_part, wp_sl, wp_call, wp_callB, wp_get, wp_idx, dc_dict, wp_seq, wp_src, wf_next, wf_brk, wf_cnt, wf_retN, wf_seq, wf_ret, wf_drop, wf_asg, wf_asgT, wf_par, wf_if, wf_app, wf_setI, tg_name, tg_tup, add_int, add_str, add_list, add_tup, sub_int, mul_int, mod_int, fdiv_int, pow_int, lt_int, le_int, gt_int, ge_int, eq_int, eq_str, ne_int, ne_str, neg_int, abs_int, int_int, int_bool, tup_list, lst_tup, lst_list, len_str, len_list, len_tup, seq_list, seq_tup, seq_str, rng1_int, rng2_int, sl_list, sl_tup, sl_str, rev_list, rev_tup, upper_str, List.set_cons_zero, List.set_cons_succ, setAll, List.length_cons, List.length_nil, Bool.false_eq_true, if_true, if_false, ite_self, eq_self, Bool.not_true, Bool.not_false, line, Nat.reduceLeDiff, Nat.reduceLT, Nat.reduceAdd, Int.reduceLT, Int.reduceLE, true_and, and_true, ixt0, ixt1, ixt2, ixt3, ixl0, ixl1, ixl2, ixl3, str_app, s1, s2]
    repeat refine And.intro (by omega) ?_
    rw [str_num o3 o4]
    simp only [wp_ok, op_some, op_none, bp_bool, ip_int, lp_list, tp_tup, slot_0, slot_s, WP_cB, wp_slot, wp_lit, wp_c1, wp_c2, wp_nil, wp_cons, wp_cN, wp_and, wp_or, wp_not, wp_if, wp_tup, wp_lst, wp_chain, wp_isi, wp_part0, wp_part, wp_sl, wp_call, wp_callB, wp_get, wp_idx, dc_dict, wp_seq, wp_src, wf_next, wf_brk, wf_cnt, wf_retN, wf_seq, wf_ret, wf_drop, wf_asg, wf_asgT, wf_par, wf_if, wf_app, wf_setI, tg_name, tg_tup, add_int, add_str, add_list, add_tup, sub_int, mul_int, mod_int, fdiv_int, pow_int, lt_int, le_int, gt_int, ge_int, eq_int, eq_str, ne_int, ne_str, neg_int, abs_int, int_int, int_bool, tup_list, lst_tup, lst_list, len_str, len_list, len_tup, seq_list, seq_tup, seq_str, rng1_int, rng2_int, sl_list, sl_tup, sl_str, rev_list, rev_tup, upper_str, List.set_cons_zero, List.set_cons_succ, setAll, List.length_cons, List.length_nil, Bool.false_eq_true, if_true, if_false, ite_self, eq_self, Bool.not_true, Bool.not_false, line, Nat.reduceLeDiff, Nat.reduceLT, Nat.reduceAdd, Int.reduceLT, Int.reduceLE, true_and, and_true, ixt0, ixt1, ixt2, ixt3, ixl0, ixl1, ixl2, ixl3, str_app, s1, s2, List.length_map, List.length_take]
    repeat refine And.intro (by omega) ?_
    have e9 : ntx us :: (rs.take (j + 1)).map rtx = (ntx us :: (rs.take j).map rtx) ++ [rtx r] := by
      rw [take_one hr, List.map_append]; rfl
    rw [e9, List.map_append]
    exact ⟨_, _, _, _, rfl⟩
  · subst e
    rw [List.length_map, List.take_length]
    refine wf_for (fun ds j ρ => ∃ (k2 k3 k4 k5 : Option D), ρ = [some (groundD us rs bs), some (.list ((ntx us :: (rs.map rtx ++ (bs.take j).map btx)).map .str)), k2, k3, k4, k5]) ?_
    simp only [groundD, wp_ok, op_some, op_none, bp_bool, ip_int, lp_list, tp_tup, slot_0, slot_s, WP_cB, wp_slot, wp_lit, wp_c1, wp_c2, wp_nil, wp_cons, wp_cN, wp_and, wp_or, wp_not, wp_if, wp_tup, wp_lst, wp_chain, wp_isi, wp_part0, wp_part, wp_sl, wp_call, wp_callB, wp_get, wp_idx, dc_dict, wp_seq, wp_src, wf_next, wf_brk, wf_cnt, wf_retN, wf_seq, wf_ret, wf_drop, wf_asg, wf_asgT, wf_par, wf_if, wf_app, wf_setI, tg_name, tg_tup, add_int, add_str, add_list, add_tup, sub_int, mul_int, mod_int, fdiv_int, pow_int, lt_int, le_int, gt_int, ge_int, eq_int, eq_str, ne_int, ne_str, neg_int, abs_int, int_int, int_bool, tup_list, lst_tup, lst_list, len_str, len_list, len_tup, seq_list, seq_tup, seq_str, rng1_int, rng2_int, sl_list, sl_tup, sl_str, rev_list, rev_tup, upper_str, List.set_cons_zero, List.set_cons_succ, setAll, List.length_cons, List.length_nil, Bool.false_eq_true, if_true, if_false, ite_self, eq_self, Bool.not_true, Bool.not_false, line, Nat.reduceLeDiff, Nat.reduceLT, Nat.reduceAdd, Int.reduceLT, Int.reduceLE, true_and, and_true, ixt0, ixt1, ixt2, ixt3, ixl0, ixl1, ixl2, ixl3]
    have e8 : ntx us :: rs.map rtx = ntx us :: (rs.map rtx ++ (bs.take 0).map btx) := by simp
    rw [e8]
    refine ⟨⟨_, _, _, _, rfl⟩, fun j d ρ hj ⟨k2, k3, k4, k5, e⟩ => ?_, fun ρ ⟨k2, k3, k4, k5, e⟩ => ?_⟩
    · obtain ⟨r, hr, hm, rfl⟩ := bs_at hj
      subst e
      have ok := h.bok r hm
      have nm := ok.names h.name
      have q1 := name_len nm.1
      have q2 := name_len nm.2
      obtain ⟨_, o3, o4⟩ := ok
      have m2 := num_len6 o3 o4
      simp only [wp_ok, op_some, op_none, bp_bool, ip_int, lp_list, tp_tup, slot_0, slot_s, WP_cB, wp_slot, wp_lit, wp_c1, wp_c2, wp_nil, wp_cons, wp_cN, wp_and, wp_or, wp_not, wp_if, wp_tup, wp_lst, wp_chain, wp_isi, wp_part0, wp_part, wp_sl, wp_call, wp_callB, wp_get, wp_idx, dc_dict, wp_seq, wp_src, wf_next, wf_brk, wf_cnt, wf_retN, wf_seq, wf_ret, wf_drop, wf_asg, wf_asgT, wf_par, wf_if, wf_app, wf_setI, tg_name, tg_tup, add_int, add_str, add_list, add_tup, sub_int, mul_int, mod_int, fdiv_int, pow_int, lt_int, le_int, gt_int, ge_int, eq_int, eq_str, ne_int, ne_str, neg_int, abs_int, int_int, int_bool, tup_list, lst_tup, lst_list, len_str, len_list, len_tup, seq_list, seq_tup, seq_str, rng1_int, rng2_int, sl_list, sl_tup, sl_str, rev_list, rev_tup, upper_str, List.set_cons_zero, List.set_cons_succ, setAll, List.length_cons, List.length_nil, Bool.false_eq_true, if_true, if_false, ite_self, eq_self, Bool.not_true, Bool.not_false, line, Nat.reduceLeDiff, Nat.reduceLT, Nat.reduceAdd, Int.reduceLT, Int.reduceLE, true_and, and_true, ixt0, ixt1, ixt2, ixt3, ixl0, ixl1, ixl2, ixl3, str_app, s3, s2]
      repeat refine And.intro (by omega) ?_
      rw [str_num o3 o4]
      simp only [wp_ok, op_some, op_none, bp_bool, ip_int, lp_list, tp_tup, slot_0, slot_s, WP_cB, wp_slot, wp_lit, wp_c1, wp_c2, wp_nil, wp_cons, wp_cN, wp_and, wp_or, wp_not, wp_if, wp_tup, wp_lst, wp_chain, wp_isi, wp_part0, wp_part, wp_sl, wp_call, wp_callB, wp_get, wp_idx, dc_dict, wp_seq, wp_src, wf_next, wf_brk, wf_cnt, wf_retN, wf_seq, wf_ret, wf_drop, wf_asg, wf_asgT, wf_par, wf_if, wf_app, wf_setI, tg_name, tg_tup, add_int, add_str, add_list, add_tup, sub_int, mul_int, mod_int, fdiv_int, pow_int, lt_int, le_int, gt_int, ge_int, eq_int, eq_str, ne_int, ne_str, neg_int, abs_int, int_int, int_bool, tup_list, lst_tup, lst_list, len_str, len_list, len_tup, seq_list, seq_tup, seq_str, rng1_int, rng2_int, sl_list, sl_tup, sl_str, rev_list, rev_tup, upper_str, List.set_cons_zero, List.set_cons_succ, setAll, List.length_cons, List.length_nil, Bool.false_eq_true, if_true, if_false, ite_self, eq_self, Bool.not_true, Bool.not_false, line, Nat.reduceLeDiff, Nat.reduceLT, Nat.reduceAdd, Int.reduceLT, Int.reduceLE, true_and, and_true, ixt0, ixt1, ixt2, ixt3, ixl0, ixl1, ixl2, ixl3, str_app, s3, s2, List.length_map, List.length_take, List.length_append]
      repeat refine And.intro (by omega) ?_
      have e9 : ntx us :: (rs.map rtx ++ (bs.take (j + 1)).map btx) = (ntx us :: (rs.map rtx ++ (bs.take j).map btx)) ++ [btx r] := by
        rw [take_one hr, List.map_append, ← List.append_assoc]; rfl
      rw [e9, List.map_append]
      exact ⟨_, _, _, _, rfl⟩
    · subst e
      rw [List.length_map, List.take_length]
      refine wp_cM1 ?_
      rw [wp_lit]
      refine ⟨_, rfl, ?_⟩
      simp only [wp_ok, op_some, op_none, bp_bool, ip_int, lp_list, tp_tup, slot_0, slot_s, WP_cB, wp_slot, wp_lit, wp_c1, wp_c2, wp_nil, wp_cons, wp_cN, wp_and, wp_or, wp_not, wp_if, wp_tup, wp_lst, wp_chain, wp_isi, wp_part0, wp_part, wp_sl, wp_call, wp_callB, wp_get, wp_idx, dc_dict, wp_seq, wp_src, wf_next, wf_brk, wf_cnt, wf_retN, wf_seq, wf_ret, wf_drop, wf_asg, wf_asgT, wf_par, wf_if, wf_app, wf_setI, tg_name, tg_tup, add_int, add_str, add_list, add_tup, sub_int, mul_int, mod_int, fdiv_int, pow_int, lt_int, le_int, gt_int, ge_int, eq_int, eq_str, ne_int, ne_str, neg_int, abs_int, int_int, int_bool, tup_list, lst_tup, lst_list, len_str, len_list, len_tup, seq_list, seq_tup, seq_str, rng1_int, rng2_int, sl_list, sl_tup, sl_str, rev_list, rev_tup, upper_str, List.set_cons_zero, List.set_cons_succ, setAll, List.length_cons, List.length_nil, Bool.false_eq_true, if_true, if_false, ite_self, eq_self, Bool.not_true, Bool.not_false, line, Nat.reduceLeDiff, Nat.reduceLT, Nat.reduceAdd, Int.reduceLT, Int.reduceLE, true_and, and_true, ixt0, ixt1, ixt2, ixt3, ixl0, ixl1, ixl2, ixl3]
      exact gtx_ok h rfl
theorem isi_tup (xs : List D) : isiB (.tuple xs) "tuple" = true := rfl
theorem law_right_ok (n : Nat) (h : GrS us rs bs) : evF T G (n + 7) 26 [groundD us rs bs] = .ok (.bool true) := by
  refine WP.ok ?_
  rw [e26]
  refine wp_run rfl ?_
  have few := h.few
  have rl := h.rlen
  have bl := h.blen
  have tx := law_text_ok (n + 5) h
  have sh := show_ground_ok (n + 4) h
  have rd := read_ground_ok n h
  have ig := is_ground_eq (n + 1) h
  have nge := fun Q => ne_grd h Q
  simp only [groundD] at tx sh rd ig nge
  simp only [bd26, groundD, startE, List.map, List.replicate, List.append, List.cons_append, List.nil_append, wp_ok, op_some, op_none, bp_bool, ip_int, lp_list, tp_tup, slot_0, slot_s, WP_cB, wp_slot, wp_lit, wp_c1, wp_c2, wp_nil, wp_cons, wp_cN, wp_and, wp_or, wp_not, wp_if, wp_tup, wp_lst, wp_chain, wp_isi, wp_part0, wp_part, wp_sl, wp_call, wp_callB, wp_get, wp_idx, dc_dict, wp_seq, wp_src, wf_next, wf_brk, wf_cnt, wf_retN, wf_seq, wf_ret, wf_drop, wf_asg, wf_asgT, wf_par, wf_if, wf_app, wf_setI, tg_name, tg_tup, add_int, add_str, add_list, add_tup, sub_int, mul_int, mod_int, fdiv_int, pow_int, lt_int, le_int, gt_int, ge_int, eq_int, eq_str, ne_int, ne_str, neg_int, abs_int, int_int, int_bool, tup_list, lst_tup, lst_list, len_str, len_list, len_tup, seq_list, seq_tup, seq_str, rng1_int, rng2_int, sl_list, sl_tup, sl_str, rev_list, rev_tup, upper_str, List.set_cons_zero, List.set_cons_succ, setAll, List.length_cons, List.length_nil, Bool.false_eq_true, if_true, if_false, ite_self, eq_self, Bool.not_true, Bool.not_false, line, Nat.reduceLeDiff, Nat.reduceLT, Nat.reduceAdd, Int.reduceLT, Int.reduceLE, true_and, and_true, ixt0, ixt1, ixt2, ixt3, ixl0, ixl1, ixl2, ixl3, tx, sh, rd, ig, nge, isiB, tyN, beq_self_eq_true, isnot_bool, decide_true, List.length_append, List.length_map]
  repeat refine And.intro (by omega) ?_
  refine wp_compM (fun _ => .bool true) ?_
  simp only [wp_ok, op_some, op_none, bp_bool, ip_int, lp_list, tp_tup, slot_0, slot_s, WP_cB, wp_slot, wp_lit, wp_c1, wp_c2, wp_nil, wp_cons, wp_cN, wp_and, wp_or, wp_not, wp_if, wp_tup, wp_lst, wp_chain, wp_isi, wp_part0, wp_part, wp_sl, wp_call, wp_callB, wp_get, wp_idx, dc_dict, wp_seq, wp_src, wf_next, wf_brk, wf_cnt, wf_retN, wf_seq, wf_ret, wf_drop, wf_asg, wf_asgT, wf_par, wf_if, wf_app, wf_setI, tg_name, tg_tup, add_int, add_str, add_list, add_tup, sub_int, mul_int, mod_int, fdiv_int, pow_int, lt_int, le_int, gt_int, ge_int, eq_int, eq_str, ne_int, ne_str, neg_int, abs_int, int_int, int_bool, tup_list, lst_tup, lst_list, len_str, len_list, len_tup, seq_list, seq_tup, seq_str, rng1_int, rng2_int, sl_list, sl_tup, sl_str, rev_list, rev_tup, upper_str, List.set_cons_zero, List.set_cons_succ, setAll, List.length_cons, List.length_nil, Bool.false_eq_true, if_true, if_false, ite_self, eq_self, Bool.not_true, Bool.not_false, line, Nat.reduceLeDiff, Nat.reduceLT, Nat.reduceAdd, Int.reduceLT, Int.reduceLE, true_and, and_true, ixt0, ixt1, ixt2, ixt3, ixl0, ixl1, ixl2, ixl3, List.length_append, List.length_map]
  repeat refine And.intro (by omega) ?_
  refine ⟨fun d hd => ?_, ?_⟩
  · have : ∃ xs, d = .tuple xs := by
      simp only [List.mem_append, List.mem_cons, List.not_mem_nil, or_false, List.mem_map] at hd
      rcases hd with ((rfl | rfl | rfl | rfl) | ⟨r, _, rfl⟩) | ⟨r, _, rfl⟩
      all_goals exact ⟨_, rfl⟩
    obtain ⟨xs, rfl⟩ := this
    rfl
  · rw [all_map (gb := fun _ => true), List.all_eq_true.mpr fun _ _ => rfl]
end
end K51

set_option Elab.async false
set_option linter.all false
set_option maxRecDepth 100000
set_option maxHeartbeats 8000000
namespace K51
open PySem Ev
open TL (tl joinL tl_join join_eq len_tl tl_append ext_tl tl_ofString mk_tl split_join partition_app)
theorem dlt4 (w w' k k' : Int) (x y x' y' : Str) : PySem.W.dataLt (.tuple [.int w, .str x, .str y, .int k]) (.tuple [.int w', .str x', .str y', .int k']) = if w = w' then (if x = x' then (if y = y' then decide (k < k') else PySem.W.dataLt (.str y) (.str y')) else PySem.W.dataLt (.str x) (.str x')) else decide (w < w') := by
  rw [dlt_tup (by simp [PySem.W.alike]), dlt_tup (by simp [PySem.W.alike]), dlt_tup (by simp [PySem.W.alike]), dlt_tup (by simp [PySem.W.alike]), PySem.W.dataLt_int, PySem.W.dataLt_int]
  have e0 : PySem.W.dataLt (.tuple []) (.tuple []) = false := dlt_irr _
  simp only [PyData.eqv, beq_iff_eq, e0]
  by_cases h : k = k'
  · simp [h]
  · simp [h]
theorem dlt3 (k k' : Int) (x y x' y' : Str) : PySem.W.dataLt (.tuple [.str x, .str y, .int k]) (.tuple [.str x', .str y', .int k']) = if x = x' then (if y = y' then decide (k < k') else PySem.W.dataLt (.str y) (.str y')) else PySem.W.dataLt (.str x) (.str x') := by
  rw [dlt_tup (by simp [PySem.W.alike]), dlt_tup (by simp [PySem.W.alike]), dlt_tup (by simp [PySem.W.alike]), PySem.W.dataLt_int]
  have e0 : PySem.W.dataLt (.tuple []) (.tuple []) = false := dlt_irr _
  simp only [PyData.eqv, beq_iff_eq, e0]
  by_cases h : k = k'
  · simp [h]
  · simp [h]
def scR (c : Int) (r : RsT) : RsT := (r.1, r.2.1, r.2.2.1, r.2.2.2 * c)
def scB (c : Int) (r : BrT) : BrT := (r.1, r.2.1, r.2.2 * c)
theorem sc_lt {c : Int} (hc : 0 < c) (k k' : Int) : decide (k * c < k' * c) = decide (k < k') := by
  rw [decide_eq_decide]
  exact Int.mul_lt_mul_right hc
theorem sc_rs {c : Int} (hc : 0 < c) (r s : RsT) : PySem.W.dataLt (rsD (ngT (scR c r))) (rsD (ngT (scR c s))) = PySem.W.dataLt (rsD (ngT r)) (rsD (ngT s)) := by
  simp only [rsD, ngT, scR, dlt4, sc_lt hc]
theorem sc_br {c : Int} (hc : 0 < c) (r s : BrT) : PySem.W.dataLt (brD (scB c r)) (brD (scB c s)) = PySem.W.dataLt (brD r) (brD s) := by
  simp only [brD, scB, dlt3, sc_lt hc]
section
variable {us : List Str} {rs : List RsT} {bs : List BrT}
theorem grP {m R B : Nat} (h : GroundP m R B us rs bs) (hm : m ≤ 15) (hR : R ≤ 60) (hB : B ≤ 60) : GrS us rs bs :=
  ⟨h.name, h.rise, by rw [h.many]; exact hm, Nat.le_trans h.rlen hR, fun r hr => by
    obtain ⟨a, b, c, d, e⟩ := h.rok r hr
    exact ⟨a, b, c, d, by omega⟩, h.rrise, Nat.le_trans h.blen hB, fun r hr => by
    obtain ⟨c, d, e⟩ := h.bok r hr
    exact ⟨c, d, by omega⟩, h.brise⟩
theorem grSc {m R B : Nat} (h : GroundP m R B us rs bs) (hm : m ≤ 15) (hR : R ≤ 60) (hB : B ≤ 60) : GrS us (rs.map (scR 49999)) (bs.map (scB 50000)) := by
  have g := grP h hm hR hB
  refine ⟨h.name, h.rise, g.few, by rw [List.length_map]; exact g.rlen, fun r hr => ?_, ?_, by rw [List.length_map]; exact g.blen, fun r hr => ?_, ?_⟩
  · obtain ⟨s, hs, rfl⟩ := List.mem_map.mp hr
    obtain ⟨a, b, c, d, e⟩ := h.rok s hs
    refine ⟨a, b, c, ?_, ?_⟩ <;> simp only [scR] <;> omega
  · have p := (adjD_pw _).mp h.rrise
    rw [List.map_map, List.pairwise_map] at p
    rw [adjD_pw, List.map_map, List.map_map, List.pairwise_map]
    exact p.imp fun {a b} z => by
      show PySem.W.dataLt (rsD (ngT (scR 49999 a))) (rsD (ngT (scR 49999 b))) = true
      rw [sc_rs (by decide)]; exact z
  · obtain ⟨s, hs, rfl⟩ := List.mem_map.mp hr
    obtain ⟨c, d, e⟩ := h.bok s hs
    refine ⟨c, ?_, ?_⟩ <;> simp only [scB] <;> omega
  · have p := (adjD_pw _).mp h.brise
    rw [List.pairwise_map] at p
    rw [adjD_pw, List.map_map, List.pairwise_map]
    exact p.imp fun {a b} z => by
      show PySem.W.dataLt (brD (scB 50000 a)) (brD (scB 50000 b)) = true
      rw [sc_br (by decide)]; exact z
end
def scRD : D → D
  | .tuple [a, b, c, .int k] => .tuple [a, b, c, .int (k * 49999)]
  | d => d
def scBD : D → D
  | .tuple [a, b, .int k] => .tuple [a, b, .int (k * 50000)]
  | d => d
theorem ne_nil {rs : List RsT} (h : ∀ d ∈ rs.map rsD, Lay 1 d) (Q : D → Prop) : OP (neD (.tuple (rs.map rsD)) (.tuple [])) Q = Q (.bool !(decide (rs = []))) := by
  have s1 : SeqAt.shaped (.tuple (rs.map rsD)) = true := (Lay.tup h).shaped (by decide)
  have s2 : SeqAt.shaped (.tuple []) = true := (Lay.tup (k := 0) (ys := []) (by simp)).shaped (by decide)
  have e : eqB (.tuple (rs.map rsD)) (.tuple []) = some (decide (rs = [])) := by
    show (if SeqAt.shaped (.tuple (rs.map rsD)) = true ∧ SeqAt.shaped (.tuple []) = true then some (PyData.eqv (.tuple (rs.map rsD)) (.tuple [])) else none) = _
    rw [if_pos ⟨s1, s2⟩]
    cases rs with
    | nil => simp [PyData.eqv, PyData.eqvAll]
    | cons r t => simp [PyData.eqv, PyData.eqvAll]
  unfold neD
  rw [e]
  exact op_some _ _
end K51

set_option Elab.async false
set_option linter.all false
set_option maxRecDepth 100000
set_option maxHeartbeats 8000000
namespace K51
open PySem Ev
open TL (tl joinL tl_join join_eq len_tl tl_append ext_tl tl_ofString mk_tl split_join partition_app)
theorem ixk (a : List D) (j : Nat) (i : Int) (d : D) (hi : i = (j : Int)) (h : a[j]? = some d) (Q : D → Prop) : OP (ixD (.list a) (.int i)) Q = Q d := by
  subst hi
  show OP (L2.atI a (j : Int)) Q = Q d
  rw [atI_nat h]
  exact op_some _ _
theorem rows_lay {us : List Str} {rs : List RsT} {bs : List BrT} (h : GrS us rs bs) : ∀ d ∈ rs.map rsD, Lay 1 d := fun d hd => by
  obtain ⟨r, hr, rfl⟩ := List.mem_map.mp hd
  have nm := (h.rok r hr).names h.name
  refine Lay.tup (k := 0) fun v hv => ?_
  simp only [List.mem_cons, List.not_mem_nil, or_false] at hv
  rcases hv with rfl | rfl | rfl | rfl
  · exact Lay.int _ _
  · exact Lay.str (real_name nm.1) _
  · exact Lay.str (real_name nm.2) _
  · exact Lay.int _ _
def cutN : D → D
  | .tuple (.int w :: r) => .tuple (.int (0 - w) :: r)
  | d => d
theorem more_ok {us : List Str} {rs : List RsT} {bs : List BrT} (h : GrS us rs bs) (hr : rs.length ≤ 12) (r : RsT) (hm : r ∈ rs) (Q : D → Prop)
    (q : ∀ ts : List RsT, ts.length ≤ 16 → GrS us (ts.map ngT) bs → Q (.list (ts.map rsD))) :
    OP (ssG (.list ([PyData.tuple [.int (0 - r.1), .str r.2.1, .str r.2.2.1, .int 2], .tuple [.int (0 - r.1), .str r.2.1, .str r.2.2.1, .int 9], .tuple [.int (0 - r.1), .str r.2.1, .str r.2.2.1, .int 10], .tuple [.int (0 - r.1), .str r.2.1, .str r.2.2.1, .int 100]] ++ (rs.map rsD).map ngD))) Q := by
  have ok := h.rok r hm
  have e : ([PyData.tuple [.int (0 - r.1), .str r.2.1, .str r.2.2.1, .int 2], .tuple [.int (0 - r.1), .str r.2.1, .str r.2.2.1, .int 9], .tuple [.int (0 - r.1), .str r.2.1, .str r.2.2.1, .int 10], .tuple [.int (0 - r.1), .str r.2.1, .str r.2.2.1, .int 100]] ++ (rs.map rsD).map ngD) = ((([(r.1, r.2.1, r.2.2.1, 2), (r.1, r.2.1, r.2.2.1, 9), (r.1, r.2.1, r.2.2.1, 10), (r.1, r.2.1, r.2.2.1, 100)] ++ rs : List RsT)).map ngT).map rsD := by
    rw [neg_rows, List.map_append, List.map_append]; rfl
  rw [e]
  have all : ∀ s ∈ ([(r.1, r.2.1, r.2.2.1, 2), (r.1, r.2.1, r.2.2.1, 9), (r.1, r.2.1, r.2.2.1, 10), (r.1, r.2.1, r.2.2.1, 100)] ++ rs : List RsT), RsS us s := fun s hs => by
    obtain ⟨a, b, c, d, e⟩ := ok
    rcases List.mem_append.mp hs with hs | hs
    · simp only [List.mem_cons, List.not_mem_nil, or_false] at hs
      rcases hs with rfl | rfl | rfl | rfl
      all_goals exact ⟨a, b, c, by simp, by simp⟩
    · exact h.rok s hs
  have len : ([(r.1, r.2.1, r.2.2.1, 2), (r.1, r.2.1, r.2.2.1, 9), (r.1, r.2.1, r.2.2.1, 10), (r.1, r.2.1, r.2.2.1, 100)] ++ rs : List RsT).length ≤ 16 := by
    rw [List.length_append]; simp only [List.length_cons, List.length_nil]; omega
  generalize ([(r.1, r.2.1, r.2.2.1, 2), (r.1, r.2.1, r.2.2.1, 9), (r.1, r.2.1, r.2.2.1, 10), (r.1, r.2.1, r.2.2.1, 100)] ++ rs : List RsT) = L at all len
  have rows : Rows 1 ((L.map ngT).map rsD) := rows_of (.inl fun d hd => by
    obtain ⟨t, ht, rfl⟩ := List.mem_map.mp hd
    obtain ⟨s, hs, rfl⟩ := List.mem_map.mp ht
    have nm := (all s hs).names h.name
    exact ⟨_, _, _, _, rfl, nm.1, nm.2⟩) (by rw [List.length_map, List.length_map]; omega)
  obtain ⟨S, eS, mS, lS, aS⟩ := set_sorted rows
  obtain ⟨ts, rfl, ht⟩ := mem_rows mS
  rw [List.length_map, List.length_map, List.length_map] at lS
  rw [eS]
  rw [op_some]
  refine q ts (by omega) ⟨h.name, h.rise, h.few, by rw [List.length_map]; omega, fun s hs => ?_, by rw [neg_neg]; exact aS, h.blen, h.bok, h.brise⟩
  obtain ⟨t, htm, rfl⟩ := List.mem_map.mp hs
  obtain ⟨s, hs', rfl⟩ := List.mem_map.mp (ht t htm)
  have e3 : ngT (ngT s) = s := by
    obtain ⟨w, r⟩ := s
    show (0 - (0 - w), r) = (w, r)
    congr 1; omega
  rw [e3]
  exact all s hs'
theorem moreB_ok {us : List Str} {rs : List RsT} {bs : List BrT} (h : GrS us rs bs) (hr : bs.length ≤ 5) {x y : Str} (he : EndOk us x y) (Q : D → Prop)
    (q : ∀ ts : List BrT, ts.length ≤ 8 → GrS us rs ts → Q (.list (ts.map brD))) :
    OP (ssG (.list (bs.map brD ++ [PyData.tuple [.str x, .str y, .int 2], .tuple [.str x, .str y, .int 10], .tuple [.str x, .str y, .int 100]]))) Q := by
  have e : (bs.map brD ++ [PyData.tuple [.str x, .str y, .int 2], .tuple [.str x, .str y, .int 10], .tuple [.str x, .str y, .int 100]]) = (bs ++ [(x, y, 2), (x, y, 10), (x, y, 100)] : List BrT).map brD := by
    rw [List.map_append]; rfl
  rw [e]
  have all : ∀ s ∈ (bs ++ [(x, y, 2), (x, y, 10), (x, y, 100)] : List BrT), BrS us s := fun s hs => by
    rcases List.mem_append.mp hs with hs | hs
    · exact h.bok s hs
    · simp only [List.mem_cons, List.not_mem_nil, or_false] at hs
      rcases hs with rfl | rfl | rfl
      all_goals exact ⟨he, by simp, by simp⟩
  have len : (bs ++ [(x, y, 2), (x, y, 10), (x, y, 100)] : List BrT).length ≤ 8 := by
    rw [List.length_append]; simp only [List.length_cons, List.length_nil]; omega
  generalize (bs ++ [(x, y, 2), (x, y, 10), (x, y, 100)] : List BrT) = L at all len
  have rows : Rows 1 (L.map brD) := rows_of (.inr fun d hd => by
    obtain ⟨t, ht, rfl⟩ := List.mem_map.mp hd
    have nm := (all t ht).names h.name
    exact ⟨_, _, _, rfl, nm.1, nm.2⟩) (by rw [List.length_map]; omega)
  obtain ⟨S, eS, mS, lS, aS⟩ := set_sorted rows
  obtain ⟨ts, rfl, ht⟩ := mem_bars mS
  rw [List.length_map, List.length_map] at lS
  rw [eS]
  rw [op_some]
  exact q ts (by omega) ⟨h.name, h.rise, h.few, h.rlen, h.rok, h.rrise, by omega, fun s hs => all s (ht s hs), aS⟩
theorem drawn_ok (n : Nat) (ns : List Int) (hn : ns.length ≤ 63) : WP (evF T G (n + 3) 24 [.list (ns.map .int)]) fun v => ∃ us rs bs, v = groundD us rs bs ∧ GrS us rs bs ∧ rs.length ≤ 16 ∧ bs.length ≤ 8 := by
  rw [e24]
  refine wp_run rfl ?_
  simp only [bd24, startE, List.map, List.replicate, List.append, List.cons_append, List.nil_append, wp_ok, op_some, op_none, bp_bool, ip_int, lp_list, tp_tup, slot_0, slot_s, WP_cB, wp_slot, wp_lit, wp_c1, wp_c2, wp_nil, wp_cons, wp_cN, wp_and, wp_or, wp_not, wp_if, wp_tup, wp_lst, wp_chain, wp_isi, wp_part0, wp_part, wp_sl, wp_call, wp_callB, wp_get, wp_idx, dc_dict, wp_seq, wp_src, wf_next, wf_brk, wf_cnt, wf_retN, wf_seq, wf_ret, wf_drop, wf_asg, wf_asgT, wf_par, wf_if, wf_app, wf_setI, tg_name, tg_tup, add_int, add_str, add_list, add_tup, sub_int, mul_int, mod_int, fdiv_int, pow_int, lt_int, le_int, gt_int, ge_int, eq_int, eq_str, ne_int, ne_str, neg_int, abs_int, int_int, int_bool, tup_list, lst_tup, lst_list, len_str, len_list, len_tup, seq_list, seq_tup, seq_str, rng1_int, rng2_int, sl_list, sl_tup, sl_str, rev_list, rev_tup, upper_str, List.set_cons_zero, List.set_cons_succ, setAll, List.length_cons, List.length_nil, Bool.false_eq_true, if_true, if_false, ite_self, eq_self, Bool.not_true, Bool.not_false, line, Nat.reduceLeDiff, Nat.reduceLT, Nat.reduceAdd, Int.reduceLT, Int.reduceLE, true_and, and_true, ixt0, ixt1, ixt2, ixt3, ixl0, ixl1, ixl2, ixl3]
  refine (show WP (evF T G (n + 2) 20 [.list (ns.map .int), .int 0]) _ from cell_ok (n + 1) ns 0 (by omega) hn).imp fun v ⟨i, e⟩ => ?_
  subst e
  refine (show WP (evF T G (n + 2) 21 [.int i, .int 9]) _ from numbers_ok (n + 1) i 9 (by omega)).imp fun v ⟨hs, e, l9, h0⟩ => ?_
  subst e
  obtain ⟨a0, a1, a2, a3, a4, a5, a6, a7, a8, rfl⟩ : ∃ a0 a1 a2 a3 a4 a5 a6 a7 a8, hs = [a0, a1, a2, a3, a4, a5, a6, a7, a8] := by
    match hs, l9 with
    | [a0, a1, a2, a3, a4, a5, a6, a7, a8], _ => exact ⟨_, _, _, _, _, _, _, _, _, rfl⟩
  have p5 := h0 a5 (by simp)
  have x5 := fun Q => ixk ([a0, a1, a2, a3, a4, a5, a6, a7, a8].map PyData.int) 5 5 (.int a5) rfl rfl Q
  have x6 := fun Q => ixk ([a0, a1, a2, a3, a4, a5, a6, a7, a8].map PyData.int) 6 6 (.int a6) rfl rfl Q
  have x7 := fun Q => ixk ([a0, a1, a2, a3, a4, a5, a6, a7, a8].map PyData.int) 7 7 (.int a7) rfl rfl Q
  have x8 := fun Q => ixk ([a0, a1, a2, a3, a4, a5, a6, a7, a8].map PyData.int) 8 8 (.int a8) rfl rfl Q
  generalize [a0, a1, a2, a3, a4, a5, a6, a7, a8].map PyData.int = H at x5 x6 x7 x8
  simp only [wp_ok, op_some, op_none, bp_bool, ip_int, lp_list, tp_tup, slot_0, slot_s, WP_cB, wp_slot, wp_lit, wp_c1, wp_c2, wp_nil, wp_cons, wp_cN, wp_and, wp_or, wp_not, wp_if, wp_tup, wp_lst, wp_chain, wp_isi, wp_part0, wp_part, wp_sl, wp_call, wp_callB, wp_get, wp_idx, dc_dict, wp_seq, wp_src, wf_next, wf_brk, wf_cnt, wf_retN, wf_seq, wf_ret, wf_drop, wf_asg, wf_asgT, wf_par, wf_if, wf_app, wf_setI, tg_name, tg_tup, add_int, add_str, add_list, add_tup, sub_int, mul_int, mod_int, fdiv_int, pow_int, lt_int, le_int, gt_int, ge_int, eq_int, eq_str, ne_int, ne_str, neg_int, abs_int, int_int, int_bool, tup_list, lst_tup, lst_list, len_str, len_list, len_tup, seq_list, seq_tup, seq_str, rng1_int, rng2_int, sl_list, sl_tup, sl_str, rev_list, rev_tup, upper_str, List.set_cons_zero, List.set_cons_succ, setAll, List.length_cons, List.length_nil, Bool.false_eq_true, if_true, if_false, ite_self, eq_self, Bool.not_true, Bool.not_false, line, Nat.reduceLeDiff, Nat.reduceLT, Nat.reduceAdd, Int.reduceLT, Int.reduceLE, true_and, and_true, ixt0, ixt1, ixt2, ixt3, ixl0, ixl1, ixl2, ixl3, x6, x7, x8]
  have m6 := mod_rng a6 (k := 9) (by omega)
  have m7 := mod_rng a7 (k := 13) (by omega)
  have m8 := mod_rng a8 (k := 6) (by omega)
  have m5 := mod_rng a5 (k := 4) (by omega)
  obtain ⟨m, e6⟩ := Int.eq_ofNat_of_zero_le m6.1
  obtain ⟨R, e7⟩ := Int.eq_ofNat_of_zero_le m7.1
  obtain ⟨B, e8⟩ := Int.eq_ofNat_of_zero_le m8.1
  rw [e6, e7, e8]
  repeat refine And.intro (by first | omega | decide) ?_
  refine (show WP (evF T G (n + 2) 23 [.list (ns.map .int), .int 0, .int (m : Nat), .int (R : Nat), .int (B : Nat)]) _ from ground_ok n ns hn 0 m R B (by omega) (by omega) (by omega) (by omega)).imp fun v ⟨us, rs, bs, e, h⟩ => ?_
  subst e
  have g := grP h (by omega) (by omega) (by omega)
  have gs := grSc h (by omega) (by omega) (by omega)
  have rl : rs.length ≤ 12 := Nat.le_trans h.rlen (by omega)
  have bl : bs.length ≤ 5 := Nat.le_trans h.blen (by omega)
  simp only [groundD, wp_ok, op_some, op_none, bp_bool, ip_int, lp_list, tp_tup, slot_0, slot_s, WP_cB, wp_slot, wp_lit, wp_c1, wp_c2, wp_nil, wp_cons, wp_cN, wp_and, wp_or, wp_not, wp_if, wp_tup, wp_lst, wp_chain, wp_isi, wp_part0, wp_part, wp_sl, wp_call, wp_callB, wp_get, wp_idx, dc_dict, wp_seq, wp_src, wf_next, wf_brk, wf_cnt, wf_retN, wf_seq, wf_ret, wf_drop, wf_asg, wf_asgT, wf_par, wf_if, wf_app, wf_setI, tg_name, tg_tup, add_int, add_str, add_list, add_tup, sub_int, mul_int, mod_int, fdiv_int, pow_int, lt_int, le_int, gt_int, ge_int, eq_int, eq_str, ne_int, ne_str, neg_int, abs_int, int_int, int_bool, tup_list, lst_tup, lst_list, len_str, len_list, len_tup, seq_list, seq_tup, seq_str, rng1_int, rng2_int, sl_list, sl_tup, sl_str, rev_list, rev_tup, upper_str, List.set_cons_zero, List.set_cons_succ, setAll, List.length_cons, List.length_nil, Bool.false_eq_true, if_true, if_false, ite_self, eq_self, Bool.not_true, Bool.not_false, line, Nat.reduceLeDiff, Nat.reduceLT, Nat.reduceAdd, Int.reduceLT, Int.reduceLE, true_and, and_true, ixt0, ixt1, ixt2, ixt3, ixl0, ixl1, ixl2, ixl3, x5]
  have end_ : ∀ us rs bs, GrS us rs bs → rs.length ≤ 16 → bs.length ≤ 8 → ∃ us' rs' bs', PyData.tuple [.tuple (us.map .str), .tuple (rs.map rsD), .tuple (bs.map brD)] = .tuple [.tuple (us'.map .str), .tuple (rs'.map rsD), .tuple (bs'.map brD)] ∧ GrS us' rs' bs' ∧ rs'.length ≤ 16 ∧ bs'.length ≤ 8 := fun us rs bs g h1 h2 => ⟨us, rs, bs, rfl, g, h1, h2⟩
  repeat refine And.intro (by first | omega | decide) ?_
  by_cases c1 : a5 % 4 = 1
  · simp only [c1, decide_true, wp_ok, op_some, op_none, bp_bool, ip_int, lp_list, tp_tup, slot_0, slot_s, WP_cB, wp_slot, wp_lit, wp_c1, wp_c2, wp_nil, wp_cons, wp_cN, wp_and, wp_or, wp_not, wp_if, wp_tup, wp_lst, wp_chain, wp_isi, wp_part0, wp_part, wp_sl, wp_call, wp_callB, wp_get, wp_idx, dc_dict, wp_seq, wp_src, wf_next, wf_brk, wf_cnt, wf_retN, wf_seq, wf_ret, wf_drop, wf_asg, wf_asgT, wf_par, wf_if, wf_app, wf_setI, tg_name, tg_tup, add_int, add_str, add_list, add_tup, sub_int, mul_int, mod_int, fdiv_int, pow_int, lt_int, le_int, gt_int, ge_int, eq_int, eq_str, ne_int, ne_str, neg_int, abs_int, int_int, int_bool, tup_list, lst_tup, lst_list, len_str, len_list, len_tup, seq_list, seq_tup, seq_str, rng1_int, rng2_int, sl_list, sl_tup, sl_str, rev_list, rev_tup, upper_str, List.set_cons_zero, List.set_cons_succ, setAll, List.length_cons, List.length_nil, Bool.false_eq_true, if_true, if_false, ite_self, eq_self, Bool.not_true, Bool.not_false, line, Nat.reduceLeDiff, Nat.reduceLT, Nat.reduceAdd, Int.reduceLT, Int.reduceLE, true_and, and_true, ixt0, ixt1, ixt2, ixt3, ixl0, ixl1, ixl2, ixl3]
    refine wp_compT (fun d y => y = scRD d) ?_
    simp only [wp_ok, op_some, op_none, bp_bool, ip_int, lp_list, tp_tup, slot_0, slot_s, WP_cB, wp_slot, wp_lit, wp_c1, wp_c2, wp_nil, wp_cons, wp_cN, wp_and, wp_or, wp_not, wp_if, wp_tup, wp_lst, wp_chain, wp_isi, wp_part0, wp_part, wp_sl, wp_call, wp_callB, wp_get, wp_idx, dc_dict, wp_seq, wp_src, wf_next, wf_brk, wf_cnt, wf_retN, wf_seq, wf_ret, wf_drop, wf_asg, wf_asgT, wf_par, wf_if, wf_app, wf_setI, tg_name, tg_tup, add_int, add_str, add_list, add_tup, sub_int, mul_int, mod_int, fdiv_int, pow_int, lt_int, le_int, gt_int, ge_int, eq_int, eq_str, ne_int, ne_str, neg_int, abs_int, int_int, int_bool, tup_list, lst_tup, lst_list, len_str, len_list, len_tup, seq_list, seq_tup, seq_str, rng1_int, rng2_int, sl_list, sl_tup, sl_str, rev_list, rev_tup, upper_str, List.set_cons_zero, List.set_cons_succ, setAll, List.length_cons, List.length_nil, Bool.false_eq_true, if_true, if_false, ite_self, eq_self, Bool.not_true, Bool.not_false, line, Nat.reduceLeDiff, Nat.reduceLT, Nat.reduceAdd, Int.reduceLT, Int.reduceLE, true_and, and_true, ixt0, ixt1, ixt2, ixt3, ixl0, ixl1, ixl2, ixl3]
    refine ⟨by rw [List.length_map]; omega, fun d hd => ?_, fun ys pys => ?_⟩
    · obtain ⟨r, hr, rfl⟩ := List.mem_map.mp hd
      refine ⟨_, rfl, rfl, ?_⟩
      simp only [wipeE, wp_ok, op_some, op_none, bp_bool, ip_int, lp_list, tp_tup, slot_0, slot_s, WP_cB, wp_slot, wp_lit, wp_c1, wp_c2, wp_nil, wp_cons, wp_cN, wp_and, wp_or, wp_not, wp_if, wp_tup, wp_lst, wp_chain, wp_isi, wp_part0, wp_part, wp_sl, wp_call, wp_callB, wp_get, wp_idx, dc_dict, wp_seq, wp_src, wf_next, wf_brk, wf_cnt, wf_retN, wf_seq, wf_ret, wf_drop, wf_asg, wf_asgT, wf_par, wf_if, wf_app, wf_setI, tg_name, tg_tup, add_int, add_str, add_list, add_tup, sub_int, mul_int, mod_int, fdiv_int, pow_int, lt_int, le_int, gt_int, ge_int, eq_int, eq_str, ne_int, ne_str, neg_int, abs_int, int_int, int_bool, tup_list, lst_tup, lst_list, len_str, len_list, len_tup, seq_list, seq_tup, seq_str, rng1_int, rng2_int, sl_list, sl_tup, sl_str, rev_list, rev_tup, upper_str, List.set_cons_zero, List.set_cons_succ, setAll, List.length_cons, List.length_nil, Bool.false_eq_true, if_true, if_false, ite_self, eq_self, Bool.not_true, Bool.not_false, line, Nat.reduceLeDiff, Nat.reduceLT, Nat.reduceAdd, Int.reduceLT, Int.reduceLE, true_and, and_true, ixt0, ixt1, ixt2, ixt3, ixl0, ixl1, ixl2, ixl3]
      first | rfl | exact ⟨by simp [small64], rfl⟩
    have := paired_map pys
    subst this
    refine wp_compT (fun d y => y = scBD d) ?_
    simp only [wp_ok, op_some, op_none, bp_bool, ip_int, lp_list, tp_tup, slot_0, slot_s, WP_cB, wp_slot, wp_lit, wp_c1, wp_c2, wp_nil, wp_cons, wp_cN, wp_and, wp_or, wp_not, wp_if, wp_tup, wp_lst, wp_chain, wp_isi, wp_part0, wp_part, wp_sl, wp_call, wp_callB, wp_get, wp_idx, dc_dict, wp_seq, wp_src, wf_next, wf_brk, wf_cnt, wf_retN, wf_seq, wf_ret, wf_drop, wf_asg, wf_asgT, wf_par, wf_if, wf_app, wf_setI, tg_name, tg_tup, add_int, add_str, add_list, add_tup, sub_int, mul_int, mod_int, fdiv_int, pow_int, lt_int, le_int, gt_int, ge_int, eq_int, eq_str, ne_int, ne_str, neg_int, abs_int, int_int, int_bool, tup_list, lst_tup, lst_list, len_str, len_list, len_tup, seq_list, seq_tup, seq_str, rng1_int, rng2_int, sl_list, sl_tup, sl_str, rev_list, rev_tup, upper_str, List.set_cons_zero, List.set_cons_succ, setAll, List.length_cons, List.length_nil, Bool.false_eq_true, if_true, if_false, ite_self, eq_self, Bool.not_true, Bool.not_false, line, Nat.reduceLeDiff, Nat.reduceLT, Nat.reduceAdd, Int.reduceLT, Int.reduceLE, true_and, and_true, ixt0, ixt1, ixt2, ixt3, ixl0, ixl1, ixl2, ixl3]
    refine ⟨by rw [List.length_map]; omega, fun d hd => ?_, fun ys pys => ?_⟩
    · obtain ⟨r, hr, rfl⟩ := List.mem_map.mp hd
      refine ⟨_, rfl, rfl, ?_⟩
      simp only [wipeE, wp_ok, op_some, op_none, bp_bool, ip_int, lp_list, tp_tup, slot_0, slot_s, WP_cB, wp_slot, wp_lit, wp_c1, wp_c2, wp_nil, wp_cons, wp_cN, wp_and, wp_or, wp_not, wp_if, wp_tup, wp_lst, wp_chain, wp_isi, wp_part0, wp_part, wp_sl, wp_call, wp_callB, wp_get, wp_idx, dc_dict, wp_seq, wp_src, wf_next, wf_brk, wf_cnt, wf_retN, wf_seq, wf_ret, wf_drop, wf_asg, wf_asgT, wf_par, wf_if, wf_app, wf_setI, tg_name, tg_tup, add_int, add_str, add_list, add_tup, sub_int, mul_int, mod_int, fdiv_int, pow_int, lt_int, le_int, gt_int, ge_int, eq_int, eq_str, ne_int, ne_str, neg_int, abs_int, int_int, int_bool, tup_list, lst_tup, lst_list, len_str, len_list, len_tup, seq_list, seq_tup, seq_str, rng1_int, rng2_int, sl_list, sl_tup, sl_str, rev_list, rev_tup, upper_str, List.set_cons_zero, List.set_cons_succ, setAll, List.length_cons, List.length_nil, Bool.false_eq_true, if_true, if_false, ite_self, eq_self, Bool.not_true, Bool.not_false, line, Nat.reduceLeDiff, Nat.reduceLT, Nat.reduceAdd, Int.reduceLT, Int.reduceLE, true_and, and_true, ixt0, ixt1, ixt2, ixt3, ixl0, ixl1, ixl2, ixl3]
      first | rfl | exact ⟨by simp [small64], rfl⟩
    have := paired_map pys
    subst this
    have er : (rs.map rsD).map scRD = (rs.map (scR 49999)).map rsD := by rw [List.map_map, List.map_map]; rfl
    have eb : (bs.map brD).map scBD = (bs.map (scB 50000)).map brD := by rw [List.map_map, List.map_map]; rfl
    rw [er, eb]
    have n1 : ¬ ((1 : Int) < 1) := by omega
    simp only [wp_ok, op_some, op_none, bp_bool, ip_int, lp_list, tp_tup, slot_0, slot_s, WP_cB, wp_slot, wp_lit, wp_c1, wp_c2, wp_nil, wp_cons, wp_cN, wp_and, wp_or, wp_not, wp_if, wp_tup, wp_lst, wp_chain, wp_isi, wp_part0, wp_part, wp_sl, wp_call, wp_callB, wp_get, wp_idx, dc_dict, wp_seq, wp_src, wf_next, wf_brk, wf_cnt, wf_retN, wf_seq, wf_ret, wf_drop, wf_asg, wf_asgT, wf_par, wf_if, wf_app, wf_setI, tg_name, tg_tup, add_int, add_str, add_list, add_tup, sub_int, mul_int, mod_int, fdiv_int, pow_int, lt_int, le_int, gt_int, ge_int, eq_int, eq_str, ne_int, ne_str, neg_int, abs_int, int_int, int_bool, tup_list, lst_tup, lst_list, len_str, len_list, len_tup, seq_list, seq_tup, seq_str, rng1_int, rng2_int, sl_list, sl_tup, sl_str, rev_list, rev_tup, upper_str, List.set_cons_zero, List.set_cons_succ, setAll, List.length_cons, List.length_nil, Bool.false_eq_true, if_true, if_false, ite_self, eq_self, Bool.not_true, Bool.not_false, line, Nat.reduceLeDiff, Nat.reduceLT, Nat.reduceAdd, Int.reduceLT, Int.reduceLE, true_and, and_true, ixt0, ixt1, ixt2, ixt3, ixl0, ixl1, ixl2, ixl3, x5, c1, n1, decide_false]
    repeat refine And.intro (by first | omega | decide) ?_
    exact end_ _ _ _ gs (by rw [List.length_map]; omega) (by rw [List.length_map]; omega)
  · simp only [c1, decide_false, wp_ok, op_some, op_none, bp_bool, ip_int, lp_list, tp_tup, slot_0, slot_s, WP_cB, wp_slot, wp_lit, wp_c1, wp_c2, wp_nil, wp_cons, wp_cN, wp_and, wp_or, wp_not, wp_if, wp_tup, wp_lst, wp_chain, wp_isi, wp_part0, wp_part, wp_sl, wp_call, wp_callB, wp_get, wp_idx, dc_dict, wp_seq, wp_src, wf_next, wf_brk, wf_cnt, wf_retN, wf_seq, wf_ret, wf_drop, wf_asg, wf_asgT, wf_par, wf_if, wf_app, wf_setI, tg_name, tg_tup, add_int, add_str, add_list, add_tup, sub_int, mul_int, mod_int, fdiv_int, pow_int, lt_int, le_int, gt_int, ge_int, eq_int, eq_str, ne_int, ne_str, neg_int, abs_int, int_int, int_bool, tup_list, lst_tup, lst_list, len_str, len_list, len_tup, seq_list, seq_tup, seq_str, rng1_int, rng2_int, sl_list, sl_tup, sl_str, rev_list, rev_tup, upper_str, List.set_cons_zero, List.set_cons_succ, setAll, List.length_cons, List.length_nil, Bool.false_eq_true, if_true, if_false, ite_self, eq_self, Bool.not_true, Bool.not_false, line, Nat.reduceLeDiff, Nat.reduceLT, Nat.reduceAdd, Int.reduceLT, Int.reduceLE, true_and, and_true, ixt0, ixt1, ixt2, ixt3, ixl0, ixl1, ixl2, ixl3, x5]
    repeat refine And.intro (by first | omega | decide) ?_
    by_cases c2 : 1 < a5 % 4
    · simp only [c2, decide_true, wp_ok, op_some, op_none, bp_bool, ip_int, lp_list, tp_tup, slot_0, slot_s, WP_cB, wp_slot, wp_lit, wp_c1, wp_c2, wp_nil, wp_cons, wp_cN, wp_and, wp_or, wp_not, wp_if, wp_tup, wp_lst, wp_chain, wp_isi, wp_part0, wp_part, wp_sl, wp_call, wp_callB, wp_get, wp_idx, dc_dict, wp_seq, wp_src, wf_next, wf_brk, wf_cnt, wf_retN, wf_seq, wf_ret, wf_drop, wf_asg, wf_asgT, wf_par, wf_if, wf_app, wf_setI, tg_name, tg_tup, add_int, add_str, add_list, add_tup, sub_int, mul_int, mod_int, fdiv_int, pow_int, lt_int, le_int, gt_int, ge_int, eq_int, eq_str, ne_int, ne_str, neg_int, abs_int, int_int, int_bool, tup_list, lst_tup, lst_list, len_str, len_list, len_tup, seq_list, seq_tup, seq_str, rng1_int, rng2_int, sl_list, sl_tup, sl_str, rev_list, rev_tup, upper_str, List.set_cons_zero, List.set_cons_succ, setAll, List.length_cons, List.length_nil, Bool.false_eq_true, if_true, if_false, ite_self, eq_self, Bool.not_true, Bool.not_false, line, Nat.reduceLeDiff, Nat.reduceLT, Nat.reduceAdd, Int.reduceLT, Int.reduceLE, true_and, and_true, ixt0, ixt1, ixt2, ixt3, ixl0, ixl1, ixl2, ixl3]
      rw [ne_nil (rows_lay g)]
      by_cases c3 : rs = []
      · simp only [c3, decide_true, wp_ok, op_some, op_none, bp_bool, ip_int, lp_list, tp_tup, slot_0, slot_s, WP_cB, wp_slot, wp_lit, wp_c1, wp_c2, wp_nil, wp_cons, wp_cN, wp_and, wp_or, wp_not, wp_if, wp_tup, wp_lst, wp_chain, wp_isi, wp_part0, wp_part, wp_sl, wp_call, wp_callB, wp_get, wp_idx, dc_dict, wp_seq, wp_src, wf_next, wf_brk, wf_cnt, wf_retN, wf_seq, wf_ret, wf_drop, wf_asg, wf_asgT, wf_par, wf_if, wf_app, wf_setI, tg_name, tg_tup, add_int, add_str, add_list, add_tup, sub_int, mul_int, mod_int, fdiv_int, pow_int, lt_int, le_int, gt_int, ge_int, eq_int, eq_str, ne_int, ne_str, neg_int, abs_int, int_int, int_bool, tup_list, lst_tup, lst_list, len_str, len_list, len_tup, seq_list, seq_tup, seq_str, rng1_int, rng2_int, sl_list, sl_tup, sl_str, rev_list, rev_tup, upper_str, List.set_cons_zero, List.set_cons_succ, setAll, List.length_cons, List.length_nil, Bool.false_eq_true, if_true, if_false, ite_self, eq_self, Bool.not_true, Bool.not_false, line, Nat.reduceLeDiff, Nat.reduceLT, Nat.reduceAdd, Int.reduceLT, Int.reduceLE, true_and, and_true, ixt0, ixt1, ixt2, ixt3, ixl0, ixl1, ixl2, ixl3]
        rw [c3] at g
        exact end_ _ _ _ g (by simp) (by omega)
      · simp only [c3, decide_false, wp_ok, op_some, op_none, bp_bool, ip_int, lp_list, tp_tup, slot_0, slot_s, WP_cB, wp_slot, wp_lit, wp_c1, wp_c2, wp_nil, wp_cons, wp_cN, wp_and, wp_or, wp_not, wp_if, wp_tup, wp_lst, wp_chain, wp_isi, wp_part0, wp_part, wp_sl, wp_call, wp_callB, wp_get, wp_idx, dc_dict, wp_seq, wp_src, wf_next, wf_brk, wf_cnt, wf_retN, wf_seq, wf_ret, wf_drop, wf_asg, wf_asgT, wf_par, wf_if, wf_app, wf_setI, tg_name, tg_tup, add_int, add_str, add_list, add_tup, sub_int, mul_int, mod_int, fdiv_int, pow_int, lt_int, le_int, gt_int, ge_int, eq_int, eq_str, ne_int, ne_str, neg_int, abs_int, int_int, int_bool, tup_list, lst_tup, lst_list, len_str, len_list, len_tup, seq_list, seq_tup, seq_str, rng1_int, rng2_int, sl_list, sl_tup, sl_str, rev_list, rev_tup, upper_str, List.set_cons_zero, List.set_cons_succ, setAll, List.length_cons, List.length_nil, Bool.false_eq_true, if_true, if_false, ite_self, eq_self, Bool.not_true, Bool.not_false, line, Nat.reduceLeDiff, Nat.reduceLT, Nat.reduceAdd, Int.reduceLT, Int.reduceLE, true_and, and_true, ixt0, ixt1, ixt2, ixt3, ixl0, ixl1, ixl2, ixl3, x5]
        have rp : 0 < rs.length := List.length_pos_iff.mpr c3
        have md := mod_rng (a5 / 4) (k := (rs.length : Int)) (by omega)
        rw [List.length_map]
        repeat refine And.intro (by first | omega | decide) ?_
        obtain ⟨j, ej⟩ := Int.eq_ofNat_of_zero_le md.1
        rw [ej]
        have hj : j < rs.length := by omega
        have hg : rs[j]? = some rs[j] := List.getElem?_eq_getElem hj
        have hm : rs[j] ∈ rs := List.getElem_mem hj
        generalize rs[j] = r at hg hm
        refine ix_tup ⟨j, rfl, .tuple [.int r.1, .str r.2.1, .str r.2.2.1, .int r.2.2.2], by rw [List.getElem?_map, hg]; rfl, ?_⟩
        simp only [wp_ok, op_some, op_none, bp_bool, ip_int, lp_list, tp_tup, slot_0, slot_s, WP_cB, wp_slot, wp_lit, wp_c1, wp_c2, wp_nil, wp_cons, wp_cN, wp_and, wp_or, wp_not, wp_if, wp_tup, wp_lst, wp_chain, wp_isi, wp_part0, wp_part, wp_sl, wp_call, wp_callB, wp_get, wp_idx, dc_dict, wp_seq, wp_src, wf_next, wf_brk, wf_cnt, wf_retN, wf_seq, wf_ret, wf_drop, wf_asg, wf_asgT, wf_par, wf_if, wf_app, wf_setI, tg_name, tg_tup, add_int, add_str, add_list, add_tup, sub_int, mul_int, mod_int, fdiv_int, pow_int, lt_int, le_int, gt_int, ge_int, eq_int, eq_str, ne_int, ne_str, neg_int, abs_int, int_int, int_bool, tup_list, lst_tup, lst_list, len_str, len_list, len_tup, seq_list, seq_tup, seq_str, rng1_int, rng2_int, sl_list, sl_tup, sl_str, rev_list, rev_tup, upper_str, List.set_cons_zero, List.set_cons_succ, setAll, List.length_cons, List.length_nil, Bool.false_eq_true, if_true, if_false, ite_self, eq_self, Bool.not_true, Bool.not_false, line, Nat.reduceLeDiff, Nat.reduceLT, Nat.reduceAdd, Int.reduceLT, Int.reduceLE, true_and, and_true, ixt0, ixt1, ixt2, ixt3, ixl0, ixl1, ixl2, ixl3]
        refine wp_compM ngD ?_
        simp only [wp_ok, op_some, op_none, bp_bool, ip_int, lp_list, tp_tup, slot_0, slot_s, WP_cB, wp_slot, wp_lit, wp_c1, wp_c2, wp_nil, wp_cons, wp_cN, wp_and, wp_or, wp_not, wp_if, wp_tup, wp_lst, wp_chain, wp_isi, wp_part0, wp_part, wp_sl, wp_call, wp_callB, wp_get, wp_idx, dc_dict, wp_seq, wp_src, wf_next, wf_brk, wf_cnt, wf_retN, wf_seq, wf_ret, wf_drop, wf_asg, wf_asgT, wf_par, wf_if, wf_app, wf_setI, tg_name, tg_tup, add_int, add_str, add_list, add_tup, sub_int, mul_int, mod_int, fdiv_int, pow_int, lt_int, le_int, gt_int, ge_int, eq_int, eq_str, ne_int, ne_str, neg_int, abs_int, int_int, int_bool, tup_list, lst_tup, lst_list, len_str, len_list, len_tup, seq_list, seq_tup, seq_str, rng1_int, rng2_int, sl_list, sl_tup, sl_str, rev_list, rev_tup, upper_str, List.set_cons_zero, List.set_cons_succ, setAll, List.length_cons, List.length_nil, Bool.false_eq_true, if_true, if_false, ite_self, eq_self, Bool.not_true, Bool.not_false, line, Nat.reduceLeDiff, Nat.reduceLT, Nat.reduceAdd, Int.reduceLT, Int.reduceLE, true_and, and_true, ixt0, ixt1, ixt2, ixt3, ixl0, ixl1, ixl2, ixl3]
        refine ⟨by rw [List.length_map]; omega, fun d hd => ?_, ?_⟩
        · obtain ⟨r, hr, rfl⟩ := List.mem_map.mp hd
          simp only [rsD, wp_ok, op_some, op_none, bp_bool, ip_int, lp_list, tp_tup, slot_0, slot_s, WP_cB, wp_slot, wp_lit, wp_c1, wp_c2, wp_nil, wp_cons, wp_cN, wp_and, wp_or, wp_not, wp_if, wp_tup, wp_lst, wp_chain, wp_isi, wp_part0, wp_part, wp_sl, wp_call, wp_callB, wp_get, wp_idx, dc_dict, wp_seq, wp_src, wf_next, wf_brk, wf_cnt, wf_retN, wf_seq, wf_ret, wf_drop, wf_asg, wf_asgT, wf_par, wf_if, wf_app, wf_setI, tg_name, tg_tup, add_int, add_str, add_list, add_tup, sub_int, mul_int, mod_int, fdiv_int, pow_int, lt_int, le_int, gt_int, ge_int, eq_int, eq_str, ne_int, ne_str, neg_int, abs_int, int_int, int_bool, tup_list, lst_tup, lst_list, len_str, len_list, len_tup, seq_list, seq_tup, seq_str, rng1_int, rng2_int, sl_list, sl_tup, sl_str, rev_list, rev_tup, upper_str, List.set_cons_zero, List.set_cons_succ, setAll, List.length_cons, List.length_nil, Bool.false_eq_true, if_true, if_false, ite_self, eq_self, Bool.not_true, Bool.not_false, line, Nat.reduceLeDiff, Nat.reduceLT, Nat.reduceAdd, Int.reduceLT, Int.reduceLE, true_and, and_true, ixt0, ixt1, ixt2, ixt3, ixl0, ixl1, ixl2, ixl3, cut4]
          first | rfl | exact ⟨by simp, rfl⟩
        simp only [wp_ok, op_some, op_none, bp_bool, ip_int, lp_list, tp_tup, slot_0, slot_s, WP_cB, wp_slot, wp_lit, wp_c1, wp_c2, wp_nil, wp_cons, wp_cN, wp_and, wp_or, wp_not, wp_if, wp_tup, wp_lst, wp_chain, wp_isi, wp_part0, wp_part, wp_sl, wp_call, wp_callB, wp_get, wp_idx, dc_dict, wp_seq, wp_src, wf_next, wf_brk, wf_cnt, wf_retN, wf_seq, wf_ret, wf_drop, wf_asg, wf_asgT, wf_par, wf_if, wf_app, wf_setI, tg_name, tg_tup, add_int, add_str, add_list, add_tup, sub_int, mul_int, mod_int, fdiv_int, pow_int, lt_int, le_int, gt_int, ge_int, eq_int, eq_str, ne_int, ne_str, neg_int, abs_int, int_int, int_bool, tup_list, lst_tup, lst_list, len_str, len_list, len_tup, seq_list, seq_tup, seq_str, rng1_int, rng2_int, sl_list, sl_tup, sl_str, rev_list, rev_tup, upper_str, List.set_cons_zero, List.set_cons_succ, setAll, List.length_cons, List.length_nil, Bool.false_eq_true, if_true, if_false, ite_self, eq_self, Bool.not_true, Bool.not_false, line, Nat.reduceLeDiff, Nat.reduceLT, Nat.reduceAdd, Int.reduceLT, Int.reduceLE, true_and, and_true, ixt0, ixt1, ixt2, ixt3, ixl0, ixl1, ixl2, ixl3, List.length_map, List.length_cons, List.length_nil]
        repeat refine And.intro (by first | omega | decide) ?_
        refine more_ok g rl r hm _ fun ts lt gt => ?_
        refine wp_compM ngD ?_
        simp only [wp_ok, op_some, op_none, bp_bool, ip_int, lp_list, tp_tup, slot_0, slot_s, WP_cB, wp_slot, wp_lit, wp_c1, wp_c2, wp_nil, wp_cons, wp_cN, wp_and, wp_or, wp_not, wp_if, wp_tup, wp_lst, wp_chain, wp_isi, wp_part0, wp_part, wp_sl, wp_call, wp_callB, wp_get, wp_idx, dc_dict, wp_seq, wp_src, wf_next, wf_brk, wf_cnt, wf_retN, wf_seq, wf_ret, wf_drop, wf_asg, wf_asgT, wf_par, wf_if, wf_app, wf_setI, tg_name, tg_tup, add_int, add_str, add_list, add_tup, sub_int, mul_int, mod_int, fdiv_int, pow_int, lt_int, le_int, gt_int, ge_int, eq_int, eq_str, ne_int, ne_str, neg_int, abs_int, int_int, int_bool, tup_list, lst_tup, lst_list, len_str, len_list, len_tup, seq_list, seq_tup, seq_str, rng1_int, rng2_int, sl_list, sl_tup, sl_str, rev_list, rev_tup, upper_str, List.set_cons_zero, List.set_cons_succ, setAll, List.length_cons, List.length_nil, Bool.false_eq_true, if_true, if_false, ite_self, eq_self, Bool.not_true, Bool.not_false, line, Nat.reduceLeDiff, Nat.reduceLT, Nat.reduceAdd, Int.reduceLT, Int.reduceLE, true_and, and_true, ixt0, ixt1, ixt2, ixt3, ixl0, ixl1, ixl2, ixl3]
        refine ⟨by rw [List.length_map]; omega, fun d hd => ?_, ?_⟩
        · obtain ⟨r, hr, rfl⟩ := List.mem_map.mp hd
          simp only [rsD, wp_ok, op_some, op_none, bp_bool, ip_int, lp_list, tp_tup, slot_0, slot_s, WP_cB, wp_slot, wp_lit, wp_c1, wp_c2, wp_nil, wp_cons, wp_cN, wp_and, wp_or, wp_not, wp_if, wp_tup, wp_lst, wp_chain, wp_isi, wp_part0, wp_part, wp_sl, wp_call, wp_callB, wp_get, wp_idx, dc_dict, wp_seq, wp_src, wf_next, wf_brk, wf_cnt, wf_retN, wf_seq, wf_ret, wf_drop, wf_asg, wf_asgT, wf_par, wf_if, wf_app, wf_setI, tg_name, tg_tup, add_int, add_str, add_list, add_tup, sub_int, mul_int, mod_int, fdiv_int, pow_int, lt_int, le_int, gt_int, ge_int, eq_int, eq_str, ne_int, ne_str, neg_int, abs_int, int_int, int_bool, tup_list, lst_tup, lst_list, len_str, len_list, len_tup, seq_list, seq_tup, seq_str, rng1_int, rng2_int, sl_list, sl_tup, sl_str, rev_list, rev_tup, upper_str, List.set_cons_zero, List.set_cons_succ, setAll, List.length_cons, List.length_nil, Bool.false_eq_true, if_true, if_false, ite_self, eq_self, Bool.not_true, Bool.not_false, line, Nat.reduceLeDiff, Nat.reduceLT, Nat.reduceAdd, Int.reduceLT, Int.reduceLE, true_and, and_true, ixt0, ixt1, ixt2, ixt3, ixl0, ixl1, ixl2, ixl3, cut4]
          first | rfl | exact ⟨by simp, rfl⟩
        rw [neg_rows]
        repeat refine And.intro (by first | omega | decide) ?_
        refine moreB_ok gt bl (x := r.2.1) (y := r.2.2.1) (g.rok r hm).2.2.1 _ fun tb lb gb => ?_
        exact end_ _ _ _ gb (by rw [List.length_map]; omega) lb
    · simp only [c2, decide_false, wp_ok, op_some, op_none, bp_bool, ip_int, lp_list, tp_tup, slot_0, slot_s, WP_cB, wp_slot, wp_lit, wp_c1, wp_c2, wp_nil, wp_cons, wp_cN, wp_and, wp_or, wp_not, wp_if, wp_tup, wp_lst, wp_chain, wp_isi, wp_part0, wp_part, wp_sl, wp_call, wp_callB, wp_get, wp_idx, dc_dict, wp_seq, wp_src, wf_next, wf_brk, wf_cnt, wf_retN, wf_seq, wf_ret, wf_drop, wf_asg, wf_asgT, wf_par, wf_if, wf_app, wf_setI, tg_name, tg_tup, add_int, add_str, add_list, add_tup, sub_int, mul_int, mod_int, fdiv_int, pow_int, lt_int, le_int, gt_int, ge_int, eq_int, eq_str, ne_int, ne_str, neg_int, abs_int, int_int, int_bool, tup_list, lst_tup, lst_list, len_str, len_list, len_tup, seq_list, seq_tup, seq_str, rng1_int, rng2_int, sl_list, sl_tup, sl_str, rev_list, rev_tup, upper_str, List.set_cons_zero, List.set_cons_succ, setAll, List.length_cons, List.length_nil, Bool.false_eq_true, if_true, if_false, ite_self, eq_self, Bool.not_true, Bool.not_false, line, Nat.reduceLeDiff, Nat.reduceLT, Nat.reduceAdd, Int.reduceLT, Int.reduceLE, true_and, and_true, ixt0, ixt1, ixt2, ixt3, ixl0, ixl1, ixl2, ixl3]
      exact end_ _ _ _ g (by omega) (by omega)
end K51

set_option Elab.async false
set_option linter.all false
set_option maxRecDepth 100000
set_option maxHeartbeats 8000000
namespace K51
open PySem Ev
open TL (tl joinL tl_join join_eq len_tl tl_append ext_tl tl_ofString mk_tl split_join partition_app)
def atD (l : List D) : D → D
  | .int i => l.getD i.toNat .none
  | _ => .none
theorem range_at (l : List D) : (rangeD 0 l.length).map (atD l) = l := by
  apply List.ext_getElem?
  intro k
  rw [List.getElem?_map]
  by_cases h : k < l.length
  · have e : (rangeD 0 l.length)[k]? = some (.int (0 + (k : Nat))) := by
      unfold rangeD
      simp [h]
    rw [e, List.getElem?_eq_getElem h]
    simp [atD, h]
  · have e : (rangeD 0 l.length)[k]? = none := List.getElem?_eq_none (by rw [range_len]; omega)
    rw [e, List.getElem?_eq_none (by omega)]
    rfl
theorem get_at (l : List D) {k : Nat} (h : k < l.length) : l[k]? = some (atD l (.int (0 + (k : Int)))) := by
  simp [atD, h]
theorem filt_sub (l : List D) (c : D → Bool) : (((rangeD 0 l.length).filter c).map (atD l)).Sublist l := by
  have h := (List.filter_sublist (p := c) (l := rangeD 0 l.length)).map (atD l)
  rwa [range_at] at h
theorem sub_map {α : Type} {f : α → D} {S : List D} {l : List α} (h : S.Sublist (l.map f)) : ∃ l' : List α, l'.Sublist l ∧ S = l'.map f := by
  obtain ⟨l', h1, h2⟩ := List.sublist_map_iff.mp h
  exact ⟨l', h1, h2⟩
def pickC (xs : List Int) (o : Nat) : D → Bool
  | .int i => decide (0 < xs.getD (o + i.toNat) 0 % 3)
  | _ => false
theorem gr_bare {us : List Str} {rs : List RsT} {bs : List BrT} (h : GrS us rs bs) : GrS us [] [] :=
  ⟨h.name, h.rise, h.few, by simp, by simp, rfl, by simp, by simp, rfl⟩
theorem law_run (n : Nat) (ns : List Int) (hn : ns.length ≤ 63) : WP (evF T G (n + 8) 27 [.list (ns.map .int)]) fun v => v = .bool true := by
  rw [e27]
  refine wp_run rfl ?_
  simp only [bd27, startE, List.map, List.replicate, List.append, List.cons_append, List.nil_append, wp_ok, op_some, op_none, bp_bool, ip_int, lp_list, tp_tup, slot_0, slot_s, WP_cB, wp_slot, wp_lit, wp_c1, wp_c2, wp_nil, wp_cons, wp_cN, wp_and, wp_or, wp_not, wp_if, wp_tup, wp_lst, wp_chain, wp_isi, wp_part0, wp_part, wp_sl, wp_call, wp_callB, wp_get, wp_idx, dc_dict, wp_seq, wp_src, wf_next, wf_brk, wf_cnt, wf_retN, wf_seq, wf_ret, wf_drop, wf_asg, wf_asgT, wf_par, wf_if, wf_app, wf_setI, tg_name, tg_tup, add_int, add_str, add_list, add_tup, sub_int, mul_int, mod_int, fdiv_int, pow_int, lt_int, le_int, gt_int, ge_int, eq_int, eq_str, ne_int, ne_str, neg_int, abs_int, int_int, int_bool, tup_list, lst_tup, lst_list, len_str, len_list, len_tup, seq_list, seq_tup, seq_str, rng1_int, rng2_int, sl_list, sl_tup, sl_str, rev_list, rev_tup, upper_str, List.set_cons_zero, List.set_cons_succ, setAll, List.length_cons, List.length_nil, Bool.false_eq_true, if_true, if_false, ite_self, eq_self, Bool.not_true, Bool.not_false, line, Nat.reduceLeDiff, Nat.reduceLT, Nat.reduceAdd, Int.reduceLT, Int.reduceLE, true_and, and_true, ixt0, ixt1, ixt2, ixt3, ixl0, ixl1, ixl2, ixl3]
  refine (show WP (evF T G (n + 7) 24 [.list (ns.map .int)]) _ from drawn_ok (n + 4) ns hn).imp fun v ⟨us, rs, bs, e, g, rl, bl⟩ => ?_
  subst e
  have r1 := law_right_ok n g
  have r2 : evF T G (n + 7) 26 [.tuple [.tuple [], .tuple [], .tuple []]] = .ok (.bool true) := law_right_ok n GrS.nil
  have r3 := law_right_ok n (gr_bare g)
  simp only [groundD, List.map_nil] at r1 r3
  simp only [groundD, wp_ok, op_some, op_none, bp_bool, ip_int, lp_list, tp_tup, slot_0, slot_s, WP_cB, wp_slot, wp_lit, wp_c1, wp_c2, wp_nil, wp_cons, wp_cN, wp_and, wp_or, wp_not, wp_if, wp_tup, wp_lst, wp_chain, wp_isi, wp_part0, wp_part, wp_sl, wp_call, wp_callB, wp_get, wp_idx, dc_dict, wp_seq, wp_src, wf_next, wf_brk, wf_cnt, wf_retN, wf_seq, wf_ret, wf_drop, wf_asg, wf_asgT, wf_par, wf_if, wf_app, wf_setI, tg_name, tg_tup, add_int, add_str, add_list, add_tup, sub_int, mul_int, mod_int, fdiv_int, pow_int, lt_int, le_int, gt_int, ge_int, eq_int, eq_str, ne_int, ne_str, neg_int, abs_int, int_int, int_bool, tup_list, lst_tup, lst_list, len_str, len_list, len_tup, seq_list, seq_tup, seq_str, rng1_int, rng2_int, sl_list, sl_tup, sl_str, rev_list, rev_tup, upper_str, List.set_cons_zero, List.set_cons_succ, setAll, List.length_cons, List.length_nil, Bool.false_eq_true, if_true, if_false, ite_self, eq_self, Bool.not_true, Bool.not_false, line, Nat.reduceLeDiff, Nat.reduceLT, Nat.reduceAdd, Int.reduceLT, Int.reduceLE, true_and, and_true, ixt0, ixt1, ixt2, ixt3, ixl0, ixl1, ixl2, ixl3, r1, r2, r3]
  obtain ⟨ms, em⟩ := cutD_ints ns (some 1) (some 20)
  refine wf_for (fun ds j ρ => ∃ (k2 k3 k4 k5 k6 : Option D), ρ = [some (.list (ns.map .int)), some (groundD us rs bs), k2, k3, k4, k5, k6]) ?_
  simp only [wp_ok, op_some, op_none, bp_bool, ip_int, lp_list, tp_tup, slot_0, slot_s, WP_cB, wp_slot, wp_lit, wp_c1, wp_c2, wp_nil, wp_cons, wp_cN, wp_and, wp_or, wp_not, wp_if, wp_tup, wp_lst, wp_chain, wp_isi, wp_part0, wp_part, wp_sl, wp_call, wp_callB, wp_get, wp_idx, dc_dict, wp_seq, wp_src, wf_next, wf_brk, wf_cnt, wf_retN, wf_seq, wf_ret, wf_drop, wf_asg, wf_asgT, wf_par, wf_if, wf_app, wf_setI, tg_name, tg_tup, add_int, add_str, add_list, add_tup, sub_int, mul_int, mod_int, fdiv_int, pow_int, lt_int, le_int, gt_int, ge_int, eq_int, eq_str, ne_int, ne_str, neg_int, abs_int, int_int, int_bool, tup_list, lst_tup, lst_list, len_str, len_list, len_tup, seq_list, seq_tup, seq_str, rng1_int, rng2_int, sl_list, sl_tup, sl_str, rev_list, rev_tup, upper_str, List.set_cons_zero, List.set_cons_succ, setAll, List.length_cons, List.length_nil, Bool.false_eq_true, if_true, if_false, ite_self, eq_self, Bool.not_true, Bool.not_false, line, Nat.reduceLeDiff, Nat.reduceLT, Nat.reduceAdd, Int.reduceLT, Int.reduceLE, true_and, and_true, ixt0, ixt1, ixt2, ixt3, ixl0, ixl1, ixl2, ixl3, em, groundD]
  refine ⟨⟨_, _, _, _, _, rfl⟩, fun j d ρ hj ⟨k2, k3, k4, k5, k6, e⟩ => ?_, fun ρ ⟨k2, k3, k4, k5, k6, e⟩ => ?_⟩
  · rw [List.getElem?_map] at hj
    obtain ⟨x, hx, rfl⟩ := Option.map_eq_some_iff.mp hj
    subst e
    simp only [wp_ok, op_some, op_none, bp_bool, ip_int, lp_list, tp_tup, slot_0, slot_s, WP_cB, wp_slot, wp_lit, wp_c1, wp_c2, wp_nil, wp_cons, wp_cN, wp_and, wp_or, wp_not, wp_if, wp_tup, wp_lst, wp_chain, wp_isi, wp_part0, wp_part, wp_sl, wp_call, wp_callB, wp_get, wp_idx, dc_dict, wp_seq, wp_src, wf_next, wf_brk, wf_cnt, wf_retN, wf_seq, wf_ret, wf_drop, wf_asg, wf_asgT, wf_par, wf_if, wf_app, wf_setI, tg_name, tg_tup, add_int, add_str, add_list, add_tup, sub_int, mul_int, mod_int, fdiv_int, pow_int, lt_int, le_int, gt_int, ge_int, eq_int, eq_str, ne_int, ne_str, neg_int, abs_int, int_int, int_bool, tup_list, lst_tup, lst_list, len_str, len_list, len_tup, seq_list, seq_tup, seq_str, rng1_int, rng2_int, sl_list, sl_tup, sl_str, rev_list, rev_tup, upper_str, List.set_cons_zero, List.set_cons_succ, setAll, List.length_cons, List.length_nil, Bool.false_eq_true, if_true, if_false, ite_self, eq_self, Bool.not_true, Bool.not_false, line, Nat.reduceLeDiff, Nat.reduceLT, Nat.reduceAdd, Int.reduceLT, Int.reduceLE, true_and, and_true, ixt0, ixt1, ixt2, ixt3, ixl0, ixl1, ixl2, ixl3]
    refine (show WP (evF T G (n + 7) 21 [.int x, .int 28]) _ from numbers_ok (n + 6) x 28 (by omega)).imp fun v ⟨xs, e, lx, h0⟩ => ?_
    subst e
    have pick : ∀ (o : Nat) (k : Nat) (Q : D → Prop), o + k < 28 → Q (.int (xs.getD (o + k) 0)) → OP (ixD (.list (xs.map .int)) (.int ((o : Int) + (k : Int)))) Q := fun o k Q hk q => by
      refine ix_list ⟨o + k, by omega, .int (xs.getD (o + k) 0), ?_, q⟩
      rw [List.getElem?_map]
      have : o + k < xs.length := by omega
      simp [this]
    refine wp_compF (pickC xs 0) (atD (rs.map rsD)) ?_
    simp only [wp_ok, op_some, op_none, bp_bool, ip_int, lp_list, tp_tup, slot_0, slot_s, WP_cB, wp_slot, wp_lit, wp_c1, wp_c2, wp_nil, wp_cons, wp_cN, wp_and, wp_or, wp_not, wp_if, wp_tup, wp_lst, wp_chain, wp_isi, wp_part0, wp_part, wp_sl, wp_call, wp_callB, wp_get, wp_idx, dc_dict, wp_seq, wp_src, wf_next, wf_brk, wf_cnt, wf_retN, wf_seq, wf_ret, wf_drop, wf_asg, wf_asgT, wf_par, wf_if, wf_app, wf_setI, tg_name, tg_tup, add_int, add_str, add_list, add_tup, sub_int, mul_int, mod_int, fdiv_int, pow_int, lt_int, le_int, gt_int, ge_int, eq_int, eq_str, ne_int, ne_str, neg_int, abs_int, int_int, int_bool, tup_list, lst_tup, lst_list, len_str, len_list, len_tup, seq_list, seq_tup, seq_str, rng1_int, rng2_int, sl_list, sl_tup, sl_str, rev_list, rev_tup, upper_str, List.set_cons_zero, List.set_cons_succ, setAll, List.length_cons, List.length_nil, Bool.false_eq_true, if_true, if_false, ite_self, eq_self, Bool.not_true, Bool.not_false, line, Nat.reduceLeDiff, Nat.reduceLT, Nat.reduceAdd, Int.reduceLT, Int.reduceLE, true_and, and_true, ixt0, ixt1, ixt2, ixt3, ixl0, ixl1, ixl2, ixl3, List.length_map]
    refine ⟨in62_of' (by omega) (by omega), by rw [range_len]; omega, fun d hd => ?_, ?_⟩
    · obtain ⟨k, hk, rfl⟩ := range_mem hd
      refine ⟨?_, fun _ => ?_⟩
      · have := pick 0 k
        simp only [Int.ofNat_zero] at this
        refine this _ (by omega) ?_
        simp only [wp_ok, op_some, op_none, bp_bool, ip_int, lp_list, tp_tup, slot_0, slot_s, WP_cB, wp_slot, wp_lit, wp_c1, wp_c2, wp_nil, wp_cons, wp_cN, wp_and, wp_or, wp_not, wp_if, wp_tup, wp_lst, wp_chain, wp_isi, wp_part0, wp_part, wp_sl, wp_call, wp_callB, wp_get, wp_idx, dc_dict, wp_seq, wp_src, wf_next, wf_brk, wf_cnt, wf_retN, wf_seq, wf_ret, wf_drop, wf_asg, wf_asgT, wf_par, wf_if, wf_app, wf_setI, tg_name, tg_tup, add_int, add_str, add_list, add_tup, sub_int, mul_int, mod_int, fdiv_int, pow_int, lt_int, le_int, gt_int, ge_int, eq_int, eq_str, ne_int, ne_str, neg_int, abs_int, int_int, int_bool, tup_list, lst_tup, lst_list, len_str, len_list, len_tup, seq_list, seq_tup, seq_str, rng1_int, rng2_int, sl_list, sl_tup, sl_str, rev_list, rev_tup, upper_str, List.set_cons_zero, List.set_cons_succ, setAll, List.length_cons, List.length_nil, Bool.false_eq_true, if_true, if_false, ite_self, eq_self, Bool.not_true, Bool.not_false, line, Nat.reduceLeDiff, Nat.reduceLT, Nat.reduceAdd, Int.reduceLT, Int.reduceLE, true_and, and_true, ixt0, ixt1, ixt2, ixt3, ixl0, ixl1, ixl2, ixl3]
        simp [pickC]
      · exact ix_tup ⟨k, by omega, _, get_at _ (by rw [List.length_map]; omega), rfl⟩
    have s1 := filt_sub (rs.map rsD) (pickC xs 0)
    rw [List.length_map] at s1
    obtain ⟨rs', h1, e1⟩ := sub_map s1
    rw [Int.toNat_natCast, e1]
    refine wp_compF (pickC xs 17) (atD (bs.map brD)) ?_
    simp only [wp_ok, op_some, op_none, bp_bool, ip_int, lp_list, tp_tup, slot_0, slot_s, WP_cB, wp_slot, wp_lit, wp_c1, wp_c2, wp_nil, wp_cons, wp_cN, wp_and, wp_or, wp_not, wp_if, wp_tup, wp_lst, wp_chain, wp_isi, wp_part0, wp_part, wp_sl, wp_call, wp_callB, wp_get, wp_idx, dc_dict, wp_seq, wp_src, wf_next, wf_brk, wf_cnt, wf_retN, wf_seq, wf_ret, wf_drop, wf_asg, wf_asgT, wf_par, wf_if, wf_app, wf_setI, tg_name, tg_tup, add_int, add_str, add_list, add_tup, sub_int, mul_int, mod_int, fdiv_int, pow_int, lt_int, le_int, gt_int, ge_int, eq_int, eq_str, ne_int, ne_str, neg_int, abs_int, int_int, int_bool, tup_list, lst_tup, lst_list, len_str, len_list, len_tup, seq_list, seq_tup, seq_str, rng1_int, rng2_int, sl_list, sl_tup, sl_str, rev_list, rev_tup, upper_str, List.set_cons_zero, List.set_cons_succ, setAll, List.length_cons, List.length_nil, Bool.false_eq_true, if_true, if_false, ite_self, eq_self, Bool.not_true, Bool.not_false, line, Nat.reduceLeDiff, Nat.reduceLT, Nat.reduceAdd, Int.reduceLT, Int.reduceLE, true_and, and_true, ixt0, ixt1, ixt2, ixt3, ixl0, ixl1, ixl2, ixl3, List.length_map]
    refine ⟨in62_of' (by omega) (by omega), by rw [range_len]; omega, fun d hd => ?_, ?_⟩
    · obtain ⟨k, hk, rfl⟩ := range_mem hd
      refine ⟨?_, fun _ => ?_⟩
      · have := pick 17 k
        have e7 : (17 : Int) + (0 + (k : Int)) = ((17 : Nat) : Int) + (k : Int) := by omega
        rw [add_int, e7]
        refine this _ (by omega) ?_
        simp only [wp_ok, op_some, op_none, bp_bool, ip_int, lp_list, tp_tup, slot_0, slot_s, WP_cB, wp_slot, wp_lit, wp_c1, wp_c2, wp_nil, wp_cons, wp_cN, wp_and, wp_or, wp_not, wp_if, wp_tup, wp_lst, wp_chain, wp_isi, wp_part0, wp_part, wp_sl, wp_call, wp_callB, wp_get, wp_idx, dc_dict, wp_seq, wp_src, wf_next, wf_brk, wf_cnt, wf_retN, wf_seq, wf_ret, wf_drop, wf_asg, wf_asgT, wf_par, wf_if, wf_app, wf_setI, tg_name, tg_tup, add_int, add_str, add_list, add_tup, sub_int, mul_int, mod_int, fdiv_int, pow_int, lt_int, le_int, gt_int, ge_int, eq_int, eq_str, ne_int, ne_str, neg_int, abs_int, int_int, int_bool, tup_list, lst_tup, lst_list, len_str, len_list, len_tup, seq_list, seq_tup, seq_str, rng1_int, rng2_int, sl_list, sl_tup, sl_str, rev_list, rev_tup, upper_str, List.set_cons_zero, List.set_cons_succ, setAll, List.length_cons, List.length_nil, Bool.false_eq_true, if_true, if_false, ite_self, eq_self, Bool.not_true, Bool.not_false, line, Nat.reduceLeDiff, Nat.reduceLT, Nat.reduceAdd, Int.reduceLT, Int.reduceLE, true_and, and_true, ixt0, ixt1, ixt2, ixt3, ixl0, ixl1, ixl2, ixl3]
        simp [pickC]
      · exact ix_tup ⟨k, by omega, _, get_at _ (by rw [List.length_map]; omega), rfl⟩
    have s2 := filt_sub (bs.map brD) (pickC xs 17)
    rw [List.length_map] at s2
    obtain ⟨bs', h2, e2⟩ := sub_map s2
    rw [Int.toNat_natCast, e2]
    have r4 := law_right_ok n (g.sub h1 h2)
    simp only [groundD] at r4
    simp only [wp_ok, op_some, op_none, bp_bool, ip_int, lp_list, tp_tup, slot_0, slot_s, WP_cB, wp_slot, wp_lit, wp_c1, wp_c2, wp_nil, wp_cons, wp_cN, wp_and, wp_or, wp_not, wp_if, wp_tup, wp_lst, wp_chain, wp_isi, wp_part0, wp_part, wp_sl, wp_call, wp_callB, wp_get, wp_idx, dc_dict, wp_seq, wp_src, wf_next, wf_brk, wf_cnt, wf_retN, wf_seq, wf_ret, wf_drop, wf_asg, wf_asgT, wf_par, wf_if, wf_app, wf_setI, tg_name, tg_tup, add_int, add_str, add_list, add_tup, sub_int, mul_int, mod_int, fdiv_int, pow_int, lt_int, le_int, gt_int, ge_int, eq_int, eq_str, ne_int, ne_str, neg_int, abs_int, int_int, int_bool, tup_list, lst_tup, lst_list, len_str, len_list, len_tup, seq_list, seq_tup, seq_str, rng1_int, rng2_int, sl_list, sl_tup, sl_str, rev_list, rev_tup, upper_str, List.set_cons_zero, List.set_cons_succ, setAll, List.length_cons, List.length_nil, Bool.false_eq_true, if_true, if_false, ite_self, eq_self, Bool.not_true, Bool.not_false, line, Nat.reduceLeDiff, Nat.reduceLT, Nat.reduceAdd, Int.reduceLT, Int.reduceLE, true_and, and_true, ixt0, ixt1, ixt2, ixt3, ixl0, ixl1, ixl2, ixl3, r4]
    exact ⟨_, _, _, _, _, rfl⟩
  · subst e
    simp only [wp_ok, op_some, op_none, bp_bool, ip_int, lp_list, tp_tup, slot_0, slot_s, WP_cB, wp_slot, wp_lit, wp_c1, wp_c2, wp_nil, wp_cons, wp_cN, wp_and, wp_or, wp_not, wp_if, wp_tup, wp_lst, wp_chain, wp_isi, wp_part0, wp_part, wp_sl, wp_call, wp_callB, wp_get, wp_idx, dc_dict, wp_seq, wp_src, wf_next, wf_brk, wf_cnt, wf_retN, wf_seq, wf_ret, wf_drop, wf_asg, wf_asgT, wf_par, wf_if, wf_app, wf_setI, tg_name, tg_tup, add_int, add_str, add_list, add_tup, sub_int, mul_int, mod_int, fdiv_int, pow_int, lt_int, le_int, gt_int, ge_int, eq_int, eq_str, ne_int, ne_str, neg_int, abs_int, int_int, int_bool, tup_list, lst_tup, lst_list, len_str, len_list, len_tup, seq_list, seq_tup, seq_str, rng1_int, rng2_int, sl_list, sl_tup, sl_str, rev_list, rev_tup, upper_str, List.set_cons_zero, List.set_cons_succ, setAll, List.length_cons, List.length_nil, Bool.false_eq_true, if_true, if_false, ite_self, eq_self, Bool.not_true, Bool.not_false, line, Nat.reduceLeDiff, Nat.reduceLT, Nat.reduceAdd, Int.reduceLT, Int.reduceLE, true_and, and_true, ixt0, ixt1, ixt2, ixt3, ixl0, ixl1, ixl2, ixl3]
def fuel : Nat := 12
theorem law_ok : LawOk T G fuel 27 := fun ns hn _ => WP.ok (law_run 4 ns hn)
end K51

set_option Elab.async false
set_option linter.all false
set_option maxRecDepth 100000
set_option maxHeartbeats 8000000
open PySem PySem.W PyProof.Rows
set_option maxRecDepth 100000 in
set_option maxHeartbeats 0 in
theorem PySem.Challenge.cw_onefolk_k51_grounds_written_holds : PySem.Challenge.rw_onefolk_k51_grounds_written.Holds := by
  w_on; o_law; k_head; (case hw => w_witness2)
  k_fill
  refine Ev.walk_ev (l := PySem.Challenge.rw_onefolk_k51_grounds_written) (n := K51.fuel) (x := "_law_script") ⟨rfl, by decide, by decide⟩ rfl rfl (fun w h Y => PySem.W.kIn_of Y) ?F
  case F =>
    intro w mg fa h KX G0 hmg
    refine' K51.all_mk KX G0 hmg K51.law_ok ?a0 ?l0 ?c0 ?k0 ?a1 ?l1 ?c1 ?k1 ?a2 ?l2 ?c2 ?k2 ?a3 ?l3 ?c3 ?k3 ?a4 ?l4 ?c4 ?k4 ?a5 ?l5 ?c5 ?k5 ?a6 ?l6 ?c6 ?k6 ?a7 ?l7 ?c7 ?k7 ?a8 ?l8 ?c8 ?k8 ?a9 ?l9 ?c9 ?k9 ?a10 ?l10 ?c10 ?k10 ?a11 ?l11 ?c11 ?k11 ?a12 ?l12 ?c12 ?k12 ?a13 ?l13 ?c13 ?k13 ?a14 ?l14 ?c14 ?k14 ?a15 ?l15 ?c15 ?k15 ?a16 ?l16 ?c16 ?k16 ?a17 ?l17 ?c17 ?k17 ?a18 ?l18 ?c18 ?k18 ?a19 ?l19 ?c19 ?k19 ?a20 ?l20 ?c20 ?k20 ?a21 ?l21 ?c21 ?k21 ?a22 ?l22 ?c22 ?k22 ?a23 ?l23 ?c23 ?k23 ?a24 ?l24 ?c24 ?k24 ?a25 ?l25 ?c25 ?k25 ?a26 ?l26 ?c26 ?k26 ?a27 ?l27 ?c27 ?k27 ?u0 ?u1 ?u2 ?u3 ?u4 ?z0 ?z1 ?z2 ?z3 ?z4 ?z5 ?z6 ?z7 ?z8 ?z9 ?z10 ?z11 ?z12 ?z13
    (case a0 => k_is)
    (case l0 => k_is)
    (case c0 => k_is)
    (case k0 => k_is)
    (case a1 => k_is)
    (case l1 => k_is)
    (case c1 => k_is)
    (case k1 => k_is)
    (case a2 => k_is)
    (case l2 => k_is)
    (case c2 => k_is)
    (case k2 => k_is)
    (case a3 => k_is)
    (case l3 => k_is)
    (case c3 => k_is)
    (case k3 => k_is)
    (case a4 => k_is)
    (case l4 => k_is)
    (case c4 => k_is)
    (case k4 => k_is)
    (case a5 => k_is)
    (case l5 => k_is)
    (case c5 => k_is)
    (case k5 => k_is)
    (case a6 => k_is)
    (case l6 => k_is)
    (case c6 => k_is)
    (case k6 => k_is)
    (case a7 => k_is)
    (case l7 => k_is)
    (case c7 => k_is)
    (case k7 => k_is)
    (case a8 => k_is)
    (case l8 => k_is)
    (case c8 => k_is)
    (case k8 => k_is)
    (case a9 => k_is)
    (case l9 => k_is)
    (case c9 => k_is)
    (case k9 => k_is)
    (case a10 => k_is)
    (case l10 => k_is)
    (case c10 => k_is)
    (case k10 => k_is)
    (case a11 => k_is)
    (case l11 => k_is)
    (case c11 => k_is)
    (case k11 => k_is)
    (case a12 => k_is)
    (case l12 => k_is)
    (case c12 => k_is)
    (case k12 => k_is)
    (case a13 => k_is)
    (case l13 => k_is)
    (case c13 => k_is)
    (case k13 => k_is)
    (case a14 => k_is)
    (case l14 => k_is)
    (case c14 => k_is)
    (case k14 => k_is)
    (case a15 => k_is)
    (case l15 => k_is)
    (case c15 => k_is)
    (case k15 => k_is)
    (case a16 => k_is)
    (case l16 => k_is)
    (case c16 => k_is)
    (case k16 => k_is)
    (case a17 => k_is)
    (case l17 => k_is)
    (case c17 => k_is)
    (case k17 => k_is)
    (case a18 => k_is)
    (case l18 => k_is)
    (case c18 => k_is)
    (case k18 => k_is)
    (case a19 => k_is)
    (case l19 => k_is)
    (case c19 => k_is)
    (case k19 => k_is)
    (case a20 => k_is)
    (case l20 => k_is)
    (case c20 => k_is)
    (case k20 => k_is)
    (case a21 => k_is)
    (case l21 => k_is)
    (case c21 => k_is)
    (case k21 => k_is)
    (case a22 => k_is)
    (case l22 => k_is)
    (case c22 => k_is)
    (case k22 => k_is)
    (case a23 => k_is)
    (case l23 => k_is)
    (case c23 => k_is)
    (case k23 => k_is)
    (case a24 => k_is)
    (case l24 => k_is)
    (case c24 => k_is)
    (case k24 => k_is)
    (case a25 => k_is)
    (case l25 => k_is)
    (case c25 => k_is)
    (case k25 => k_is)
    (case a26 => k_is)
    (case l26 => k_is)
    (case c26 => k_is)
    (case k26 => k_is)
    (case a27 => k_is)
    (case l27 => k_is)
    (case c27 => k_is)
    (case k27 => k_is)
    (case u0 => k_is)
    (case u1 => k_is)
    (case u2 => k_is)
    (case u3 => k_is)
    (case u4 => k_is)
    (case z0 => k_is)
    (case z1 => k_is)
    (case z2 => k_is)
    (case z3 => k_is)
    (case z4 => k_is)
    (case z5 => k_is)
    (case z6 => k_is)
    (case z7 => k_is)
    (case z8 => k_is)
    (case z9 => k_is)
    (case z10 => k_is)
    (case z11 => k_is)
    (case z12 => k_is)
    (case z13 => k_is)
