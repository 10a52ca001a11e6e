import PyProof.Rows.All
import Wide.All
import OpenK.AllK
import Wide.FinOn
import HandS.ForMost
import HandS.Exc
import HandS.TryOnly
import HandS.ExcOwn
import HandS.WordsExc
import HandS.TupAny
import HandS.Deep
import HandS.IsInst
import HandS.Zip
import HandS.Wide
import KE.SortData
import KE.LtData
import HandS.Style
import HandS.MapJoin
import HandS.Small
import HandS.Words
import HandS.EndBits
import PySem.Challenge.RW_onefolk_k06_what_rules_are
set_option Elab.async false
set_option linter.all false
set_option maxRecDepth 100000
set_option maxHeartbeats 4000000
/-! The evaluator, part A: data in the heap, what may grow. -/
namespace Ev
open PySem L2

abbrev D := PyData

/-- a key of a dict as data -/
def kD : Key → D
  | .inl i => .int i
  | .inr x => .str x

mutual
/-- the value v stands for the data d, in the part F of the abstract heap -/
inductive Dn (K : PySem.W.Frag) (F : Hp) : V → D → Prop
  | non : Dn K F .non .none
  | bl (b : Bool) : Dn K F (.bl b) (.bool b)
  | int (i : Int) : Dn K F (.int i) (.int i)
  | str (x : Str) : Dn K F (.str x) (.str x)
  | lst {a : Addr} {xs : List V} {ds : List D} : SqL K F a xs → DnL K F xs ds → Dn K F (.ref a) (.list ds)
  | tup {a : Addr} {xs : List V} {ds : List D} : SqT K F a xs → DnL K F xs ds → Dn K F (.ref a) (.tuple ds)
  | dic {a : Addr} {ks : List (Key × V)} {es : List (D × D)} : F a = some (.dK ks) → DnK K F ks es → Dn K F (.ref a) (.dict es)
inductive DnL (K : PySem.W.Frag) (F : Hp) : List V → List D → Prop
  | nil : DnL K F [] []
  | cons {v : V} {vs : List V} {d : D} {ds : List D} : Dn K F v d → DnL K F vs ds → DnL K F (v :: vs) (d :: ds)
inductive DnK (K : PySem.W.Frag) (F : Hp) : List (Key × V) → List (D × D) → Prop
  | nil : DnK K F [] []
  | cons {k : Key} {v : V} {ks : List (Key × V)} {d : D} {es : List (D × D)} : Dn K F v d → DnK K F ks es → DnK K F ((k, v) :: ks) ((kD k, d) :: es)
end

section
variable {K : PySem.W.Frag} {F F' H : Hp}
theorem seqT_same {a : Addr} {xs : List V} (e : Same F F') (h : SqT K F a xs) : SqT K F' a xs := by
  rcases h with (h | ⟨o, h⟩) | h
  · exact .inl (.inl (e _ _ h))
  · exact .inl (.inr ⟨o, e _ _ h⟩)
  · exact .inr h
mutual
theorem Dn.mono (e : Same F F') : ∀ (d : D) (v : V), Dn K F v d → Dn K F' v d
  | .none, _, h => by cases h; exact .non
  | .bool b, _, h => by cases h; exact .bl _
  | .int i, _, h => by cases h; exact .int _
  | .str x, _, h => by cases h; exact .str _
  | .list ds, _, h => by
    cases h with
    | lst h1 h2 => exact .lst (e.seq h1) (DnL.mono e ds _ h2)
  | .tuple ds, _, h => by
    cases h with
    | tup h1 h2 => exact .tup (seqT_same e h1) (DnL.mono e ds _ h2)
  | .dict es, _, h => by
    cases h with
    | dic h1 h2 => exact .dic (e _ _ h1) (DnK.mono e es _ h2)
theorem DnL.mono (e : Same F F') : ∀ (ds : List D) (vs : List V), DnL K F vs ds → DnL K F' vs ds
  | [], _, h => by cases h; exact .nil
  | d :: ds, _, h => by
    cases h with
    | cons h1 h2 => exact .cons (Dn.mono e d _ h1) (DnL.mono e ds _ h2)
theorem DnK.mono (e : Same F F') : ∀ (es : List (D × D)) (ks : List (Key × V)), DnK K F ks es → DnK K F' ks es
  | [], _, h => by cases h; exact .nil
  | (a, d) :: es, _, h => by
    cases h with
    | cons h1 h2 => exact .cons (Dn.mono e d _ h1) (DnK.mono e es _ h2)
end
mutual
theorem Dn.dp : ∀ (d : D) (v : V), d.canLay0 = true → Dn K F v d → Dp K F v d
  | .none, _, _, h => by cases h; exact .non
  | .bool b, _, _, h => by cases h; exact .bl _
  | .int i, _, _, h => by cases h; exact .int _
  | .str x, _, _, h => by cases h; exact .str _
  | .list ds, _, c, h => by
    cases h with
    | lst h1 h2 => exact .lst h1 (DnL.dp ds _ (by simpa [PyData.canLay0] using c) h2)
  | .tuple ds, _, c, h => by
    cases h with
    | tup h1 h2 => exact .tup h1 (DnL.dp ds _ (by simpa [PyData.canLay0] using c) h2)
  | .dict es, _, c, h => by simp [PyData.canLay0] at c
theorem DnL.dp : ∀ (ds : List D) (vs : List V), PyData.canLayAll0 ds = true → DnL K F vs ds → DpAll K F vs ds
  | [], _, _, h => by cases h; exact .nil
  | d :: ds, _, c, h => by
    have c' : d.canLay0 = true ∧ PyData.canLayAll0 ds = true := by simpa [PyData.canLayAll0] using c
    cases h with
    | cons h1 h2 => exact .cons (Dn.dp d _ c'.1 h1) (DnL.dp ds _ c'.2 h2)
end
theorem DnL.length : ∀ {ds : List D} {vs : List V}, DnL K F vs ds → vs.length = ds.length
  | [], _, h => by cases h; rfl
  | d :: ds, _, h => by
    cases h with
    | cons h1 h2 => simp [DnL.length h2]
theorem DnL.get : ∀ {ds : List D} {vs : List V} {i : Nat} {d : D}, DnL K F vs ds → ds[i]? = some d → ∃ v, vs[i]? = some v ∧ Dn K F v d
  | [], _, _, _, h, e => by simp at e
  | d :: ds, _, 0, _, h, e => by
    cases h with
    | cons h1 h2 => simp at e; subst e; exact ⟨_, rfl, h1⟩
  | d :: ds, _, i + 1, _, h, e => by
    cases h with
    | cons h1 h2 =>
      obtain ⟨v, e1, e2⟩ := DnL.get (i := i) h2 (by simpa using e)
      exact ⟨v, by simpa using e1, e2⟩
theorem DnL.get' : ∀ {ds : List D} {vs : List V} {i : Nat} {v : V}, DnL K F vs ds → vs[i]? = some v → ∃ d, ds[i]? = some d ∧ Dn K F v d
  | [], _, _, _, h, e => by cases h; simp at e
  | d :: ds, _, 0, _, h, e => by
    cases h with
    | cons h1 h2 => simp at e; subst e; exact ⟨_, rfl, h1⟩
  | d :: ds, _, i + 1, _, h, e => by
    cases h with
    | cons h1 h2 =>
      obtain ⟨v, e1, e2⟩ := DnL.get' (i := i) h2 (by simpa using e)
      exact ⟨v, by simpa using e1, e2⟩
theorem DnL.append : ∀ {ds es : List D} {vs us : List V}, DnL K F vs ds → DnL K F us es → DnL K F (vs ++ us) (ds ++ es)
  | [], _, _, _, h, h' => by cases h; exact h'
  | d :: ds, _, _, _, h, h' => by
    cases h with
    | cons h1 h2 => exact .cons h1 (DnL.append h2 h')
theorem DnL.one {v : V} {d : D} (h : Dn K F v d) : DnL K F [v] [d] := .cons h .nil
theorem DnL.take : ∀ {ds : List D} {vs : List V} (n : Nat), DnL K F vs ds → DnL K F (vs.take n) (ds.take n)
  | _, _, 0, _ => by simp; exact .nil
  | [], _, _ + 1, h => by cases h; exact .nil
  | d :: ds, _, n + 1, h => by
    cases h with
    | cons h1 h2 => exact .cons h1 (DnL.take n h2)
theorem DnL.drop : ∀ {ds : List D} {vs : List V} (n : Nat), DnL K F vs ds → DnL K F (vs.drop n) (ds.drop n)
  | _, _, 0, h => h
  | [], _, _ + 1, h => by cases h; exact .nil
  | d :: ds, _, n + 1, h => by
    cases h with
    | cons h1 h2 => exact DnL.drop n h2
theorem DnL.set : ∀ {ds : List D} {vs : List V} (n : Nat) {v : V} {d : D}, DnL K F vs ds → Dn K F v d → DnL K F (vs.set n v) (ds.set n d)
  | [], _, _, _, _, h, _ => by cases h; exact .nil
  | _ :: _, _, 0, _, _, h, q => by
    cases h with
    | cons h1 h2 => exact .cons q h2
  | d :: ds, _, n + 1, _, _, h, q => by
    cases h with
    | cons h1 h2 => exact .cons h1 (DnL.set n h2 q)
theorem DnL.reverse : ∀ {ds : List D} {vs : List V}, DnL K F vs ds → DnL K F vs.reverse ds.reverse
  | [], _, h => by cases h; exact .nil
  | d :: ds, _, h => by
    cases h with
    | cons h1 h2 => rw [List.reverse_cons, List.reverse_cons]; exact (DnL.reverse h2).append (.one h1)
theorem DnL.dropLast : ∀ {ds : List D} {vs : List V}, DnL K F vs ds → DnL K F vs.dropLast ds.dropLast
  | [], _, h => by cases h; exact .nil
  | [d], _, h => by
    cases h with
    | cons h1 h2 => cases h2; exact .nil
  | d :: e :: ds, _, h => by
    cases h with
    | cons h1 h2 =>
      cases h2 with
      | cons h3 h4 => exact .cons h1 (DnL.dropLast (.cons h3 h4))
theorem DnL.eraseIdx : ∀ {ds : List D} {vs : List V} (n : Nat), DnL K F vs ds → DnL K F (vs.eraseIdx n) (ds.eraseIdx n)
  | [], _, _, h => by cases h; exact .nil
  | _ :: _, _, 0, h => by
    cases h with
    | cons h1 h2 => exact h2
  | d :: ds, _, n + 1, h => by
    cases h with
    | cons h1 h2 => exact .cons h1 (DnL.eraseIdx n h2)
theorem DnL.rep {ds : List D} {vs : List V} (h : DnL K F vs ds) : ∀ n : Nat, DnL K F (List.replicate n vs).flatten (List.replicate n ds).flatten
  | 0 => .nil
  | n + 1 => by rw [List.replicate_succ, List.replicate_succ, List.flatten_cons, List.flatten_cons]; exact h.append (DnL.rep h n)

/-- a value that is read at a place where nothing is kept of it: its top may stand outside F -/
inductive Br (K : PySem.W.Frag) (F H : Hp) : V → D → Prop
  | dn {v : V} {d : D} : Dn K F v d → Br K F H v d
  | lst {a : Addr} {xs : List V} {ds : List D} : H a = some (.lst xs) → DnL K F xs ds → Br K F H (.ref a) (.list ds)
  | dic {a : Addr} {ks : List (Key × V)} {es : List (D × D)} : H a = some (.dK ks) → DnK K F ks es → Br K F H (.ref a) (.dict es)

theorem Br.list {v : V} {ds : List D} (e : Same F H) (h : Br K F H v (.list ds)) : ∃ a xs, v = .ref a ∧ SqL K H a xs ∧ DnL K F xs ds := by
  cases h with
  | dn h =>
    cases h with
    | lst h1 h2 => exact ⟨_, _, rfl, e.seq h1, h2⟩
  | lst h1 h2 => exact ⟨_, _, rfl, SqL.of h1, h2⟩
theorem Br.tuple {v : V} {ds : List D} (h : Br K F H v (.tuple ds)) : ∃ a xs, v = .ref a ∧ SqT K F a xs ∧ DnL K F xs ds := by
  cases h with
  | dn h =>
    cases h with
    | tup h1 h2 => exact ⟨_, _, rfl, h1, h2⟩
theorem Br.dict {v : V} {es : List (D × D)} (e : Same F H) (h : Br K F H v (.dict es)) : ∃ a ks, v = .ref a ∧ H a = some (.dK ks) ∧ DnK K F ks es := by
  cases h with
  | dn h =>
    cases h with
    | dic h1 h2 => exact ⟨_, _, rfl, e _ _ h1, h2⟩
  | dic h1 h2 => exact ⟨_, _, rfl, h1, h2⟩
theorem Br.full {v : V} {d : D} (e : Same F H) (h : Br K F H v d) : Dn K H v d := by
  cases h with
  | dn h => exact h.mono e
  | lst h1 h2 => exact .lst (SqL.of h1) (h2.mono e)
  | dic h1 h2 => exact .dic h1 (h2.mono e)

/-- F, H grow to F', H': what stood stands, what is new in F' was free in H -/
structure Gr (F H F' H' : Hp) : Prop where
  hh : Same H H'
  ff : Same F F'
  fh : Same F' H'
  nw : ∀ a o, F' a = some o → F a = some o ∨ H a = none
theorem Gr.refl (e : Same F H) : Gr F H F H := ⟨Same.refl _, Same.refl _, e, fun _ _ h => .inl h⟩
theorem Gr.trans {F1 H1 F2 H2 F3 H3 : Hp} (a : Gr F1 H1 F2 H2) (b : Gr F2 H2 F3 H3) : Gr F1 H1 F3 H3 :=
  ⟨a.hh.trans b.hh, a.ff.trans b.ff, b.fh, fun x o h => by
    rcases b.nw x o h with h | h
    · exact a.nw x o h
    · exact .inr (a.hh.free h)⟩
theorem Gr.sf {F H F' H' : Hp} (a : Gr F H F' H') : Same F H → Same F' H' := fun _ => a.fh
/-- a new object that stands in F too -/
theorem Gr.new {p : Addr} {o : HO} (e : Same F H) (hp : H p = none) : Gr F H (upd F p o) (upd H p o) :=
  ⟨fun b u h => by rw [upd_ne (ne_of_none h hp)]; exact h, fun b u h => by rw [upd_ne (ne_of_none (e b u h) hp)]; exact h,
   fun b u h => by
     by_cases hb : b = p
     · subst hb; rw [upd_same] at h ⊢; exact h
     · rw [upd_ne hb] at h ⊢; exact e b u h,
   fun b u h => by
     by_cases hb : b = p
     · subst hb; exact .inr hp
     · rw [upd_ne hb] at h; exact .inl h⟩
/-- a new object outside F -/
theorem Gr.out {p : Addr} {o : HO} (e : Same F H) (hp : H p = none) : Gr F H F (upd H p o) :=
  ⟨fun b u h => by rw [upd_ne (ne_of_none h hp)]; exact h, Same.refl _, fun b u h => by rw [upd_ne (ne_of_none (e b u h) hp)]; exact e b u h, fun _ _ h => .inl h⟩
theorem Br.mono {F H F' H' : Hp} {v : V} {d : D} (g : Gr F H F' H') (h : Br K F H v d) : Br K F' H' v d := by
  cases h with
  | dn h => exact .dn (h.mono g.ff)
  | lst h1 h2 => exact .lst (g.hh _ _ h1) (h2.mono g.ff)
  | dic h1 h2 => exact .dic (g.hh _ _ h1) (h2.mono g.ff)
end

/-! ### results -/
/-- what is raised: its class's name, the field's value where it has one -/
structure Ex where
  cls : Str
  fld : Option D
inductive Res (α : Type) where
  | ok (a : α)
  | exc (x : Ex)
  | bad
def Res.bind {α β : Type} (r : Res α) (f : α → Res β) : Res β := match r with
  | .ok a => f a
  | .exc x => .exc x
  | .bad => .bad
instance : Monad Res where
  pure := .ok
  bind := Res.bind
@[simp] theorem Res.pure_eq {α : Type} (a : α) : (pure a : Res α) = .ok a := rfl
@[simp] theorem Res.ok_bind {α β : Type} (a : α) (f : α → Res β) : (Res.ok a >>= f) = f a := rfl
@[simp] theorem Res.exc_bind {α β : Type} (x : Ex) (f : α → Res β) : ((Res.exc x : Res α) >>= f) = .exc x := rfl
@[simp] theorem Res.bad_bind {α β : Type} (f : α → Res β) : ((Res.bad : Res α) >>= f) = .bad := rfl
theorem Res.bind_ok {α β : Type} {r : Res α} {f : α → Res β} {b : β} (h : (r >>= f) = .ok b) : ∃ a, r = .ok a ∧ f a = .ok b := by
  cases r with
  | ok a => exact ⟨a, rfl, h⟩
  | exc x => cases h
  | bad => cases h
/-- what is wanted of a result: W of what is raised, at whatever heap holds what stood -/
abbrev XW := Ex → Value → Option Addr → Hp → Prop
/-- how what is raised lies in the heap -/
def ExIs (K : PySem.W.Frag) (mg : Str → Option Value) (H : Hp) (x : Ex) (cls : Value) (d : Option Addr) : Prop :=
  mg x.cls = some cls ∧ match x.fld with
    | none => True
    | some v => ∃ (dd : Addr) (f : Str) (u : V), d = some dd ∧ H dd = some (.xd [(f, u)]) ∧ Dn K H u v
def RQ {α : Type} (K : PySem.W.Frag) (mg : Str → Option Value) (W : WX) (σ : St) (F H : Hp) (r : Res α) (Q : α → Prop) : Prop := match r with
  | .ok a => Q a
  | .exc x => ∀ cls d H', Same H H' → ExIs K mg H' x cls d → W cls d σ H'
  | .bad => False
theorem RQ.imp {α : Type} {K : PySem.W.Frag} {mg : Str → Option Value} {W : WX} {σ : St} {F H : Hp} {r : Res α} {Q Q' : α → Prop} (h : RQ K mg W σ F H r Q) (i : ∀ a, r = .ok a → Q a → Q' a) : RQ K mg W σ F H r Q' := by
  cases r with
  | ok a => exact i a rfl h
  | exc x => exact h
  | bad => exact h
end Ev

set_option Elab.async false
set_option linter.all false
set_option maxRecDepth 100000
set_option maxHeartbeats 4000000
/-! The evaluator, part B: slots, readings of expressions, names, constants, operators by values. -/
namespace Ev
open PySem L2

abbrev Env := List (Option D)
/-- is it a list or a dict -/
def isC : D → Bool
  | .list _ => true
  | .dict _ => true
  | _ => false
/-- an owned value: its object, where it is a list or a dict, stands outside F, and was free in Z -/
def Owv (K : PySem.W.Frag) (Z F H : Hp) (v : V) : D → Prop
  | .list ds => ∃ a xs, v = .ref a ∧ Z a = none ∧ F a = none ∧ H a = some (.lst xs) ∧ DnL K F xs ds
  | .dict es => ∃ a ks, v = .ref a ∧ Z a = none ∧ F a = none ∧ H a = some (.dK ks) ∧ DnK K F ks es
  | d => Dn K F v d
theorem Owv.flat {K : PySem.W.Frag} {Z F H : Hp} {v : V} {d : D} (h : isC d = false) : Owv K Z F H v d = Dn K F v d := by
  cases d <;> first | rfl | cases h

structure Rel (K : PySem.W.Frag) (F0 H0 : Hp) (O : List Nat) (ρ : Env) (σ : St) (F H : Hp) : Prop where
  len : ρ.length = σ.length
  sfh : Same F H
  s0 : Same H0 H
  sf0 : Same F0 F
  nw : ∀ a o, F a = some o → F0 a = some o ∨ H0 a = none
  fz : ∀ (i : Nat) (d : D), i ∉ O → ρ[i]? = some (some d) → ∃ v, σ[i]? = some (some v) ∧ Dn K F v d
  ow : ∀ (i : Nat) (d : D), i ∈ O → ρ[i]? = some (some d) → ∃ v, σ[i]? = some (some v) ∧ Owv K H0 F H v d
  ap : ∀ (i j : Nat) (d e : D) (a : Addr), i ∈ O → j ∈ O → i ≠ j → ρ[i]? = some (some d) → ρ[j]? = some (some e) → isC d = true → isC e = true → σ[i]? = some (some (.ref a)) → σ[j]? = some (some (.ref a)) → False

section
variable {K : PySem.W.Frag} {F0 H0 F H F' H' Z : Hp} {O : List Nat} {ρ : Env} {σ : St}
theorem Owv.grow {v : V} {d : D} (g : Gr F H F' H') (hz : ∀ a, H a = none → Z a = none) (h : Owv K Z F H v d) : Owv K Z F' H' v d := by
  cases d with
  | list ds =>
    obtain ⟨a, xs, e1, e2, e3, e4, e5⟩ := h
    refine ⟨a, xs, e1, e2, ?_, g.hh _ _ e4, e5.mono g.ff⟩
    cases q : F' a with
    | none => rfl
    | some o =>
      rcases g.nw a o q with z | z
      · rw [e3] at z; cases z
      · rw [e4] at z; cases z
  | dict es =>
    obtain ⟨a, xs, e1, e2, e3, e4, e5⟩ := h
    refine ⟨a, xs, e1, e2, ?_, g.hh _ _ e4, e5.mono g.ff⟩
    cases q : F' a with
    | none => rfl
    | some o =>
      rcases g.nw a o q with z | z
      · rw [e3] at z; cases z
      · rw [e4] at z; cases z
  | none => exact Dn.mono g.ff _ _ h
  | bool b => exact Dn.mono g.ff _ _ h
  | int i => exact Dn.mono g.ff _ _ h
  | str x => exact Dn.mono g.ff _ _ h
  | tuple xs => exact Dn.mono g.ff _ _ h
theorem Rel.free (r : Rel K F0 H0 O ρ σ F H) {a : Addr} (h : H a = none) : H0 a = none := r.s0.free h
theorem Rel.grow (r : Rel K F0 H0 O ρ σ F H) (g : Gr F H F' H') : Rel K F0 H0 O ρ σ F' H' :=
  ⟨r.len, g.fh, r.s0.trans g.hh, r.sf0.trans g.ff, fun a o h => by
    rcases g.nw a o h with z | z
    · exact r.nw a o z
    · exact .inr (r.free z), fun i d h1 h2 => by
    obtain ⟨v, e1, e2⟩ := r.fz i d h1 h2
    exact ⟨v, e1, e2.mono g.ff⟩, fun i d h1 h2 => by
    obtain ⟨v, e1, e2⟩ := r.ow i d h1 h2
    exact ⟨v, e1, e2.grow g fun a h => r.free h⟩, r.ap⟩
theorem Owv.br {v : V} {d : D} (h : Owv K Z F H v d) : Br K F H v d := by
  cases d with
  | list ds =>
    obtain ⟨a, xs, e1, e2, e3, e4, e5⟩ := h
    subst e1; exact .lst e4 e5
  | dict es =>
    obtain ⟨a, xs, e1, e2, e3, e4, e5⟩ := h
    subst e1; exact .dic e4 e5
  | none => exact .dn h
  | bool b => exact .dn h
  | int i => exact .dn h
  | str x => exact .dn h
  | tuple xs => exact .dn h
theorem Rel.br (r : Rel K F0 H0 O ρ σ F H) {i : Nat} {d : D} (h : ρ[i]? = some (some d)) : ∃ v, σ[i]? = some (some v) ∧ Br K F H v d := by
  by_cases hi : i ∈ O
  · obtain ⟨v, e1, e2⟩ := r.ow i d hi h
    exact ⟨v, e1, e2.br⟩
  · obtain ⟨v, e1, e2⟩ := r.fz i d hi h
    exact ⟨v, e1, .dn e2⟩
/-- an owned value, let go -/
theorem Owv.let_go {v : V} {d : D} (sfh : Same F H) (h : Owv K Z F H v d) :
    ∃ F', Same F F' ∧ Same F' H ∧ (∀ b, F' b = F b ∨ (v = .ref b ∧ isC d = true ∧ Z b = none)) ∧ Dn K F' v d := by
  have core : ∀ (a : Addr) (o : HO), F a = none → Z a = none → H a = some o → Same F (upd F a o) ∧ Same (upd F a o) H ∧ (∀ b, upd F a o b = F b ∨ ((V.ref a) = .ref b ∧ Z b = none)) := fun a o e3 e2 e4 =>
    ⟨fun b o e => by rw [upd_ne (ne_of_none e e3)]; exact e, fun b o e => by
      by_cases hb : b = a
      · subst hb; rw [upd_same] at e; rw [← e]; exact e4
      · rw [upd_ne hb] at e; exact sfh b o e, fun b => by
      by_cases hb : b = a
      · subst hb; exact .inr ⟨rfl, e2⟩
      · exact .inl (upd_ne hb)⟩
  cases d with
  | list ds =>
    obtain ⟨a, xs, e1, e2, e3, e4, e5⟩ := h
    subst e1
    obtain ⟨s, s2, n⟩ := core a _ e3 e2 e4
    exact ⟨upd F a (.lst xs), s, s2, fun b => (n b).imp id fun z => ⟨z.1, rfl, z.2⟩, .lst (SqL.of upd_same) (e5.mono s)⟩
  | dict es =>
    obtain ⟨a, xs, e1, e2, e3, e4, e5⟩ := h
    subst e1
    obtain ⟨s, s2, n⟩ := core a _ e3 e2 e4
    exact ⟨upd F a (.dK xs), s, s2, fun b => (n b).imp id fun z => ⟨z.1, rfl, z.2⟩, .dic upd_same (e5.mono s)⟩
  | none => exact ⟨F, Same.refl _, sfh, fun _ => .inl rfl, h⟩
  | bool b => exact ⟨F, Same.refl _, sfh, fun _ => .inl rfl, h⟩
  | int i => exact ⟨F, Same.refl _, sfh, fun _ => .inl rfl, h⟩
  | str x => exact ⟨F, Same.refl _, sfh, fun _ => .inl rfl, h⟩
  | tuple xs => exact ⟨F, Same.refl _, sfh, fun _ => .inl rfl, h⟩
/-- behind a step from H: the owned value stands in a larger F -/
theorem Owv.dn {v : V} {d : D} (g : Gr F H F' H') (h : Owv K H F' H' v d) : ∃ F2, Gr F H F2 H' ∧ Dn K F2 v d := by
  obtain ⟨F2, s1, s2, n, q⟩ := h.let_go g.fh
  refine ⟨F2, ⟨g.hh, g.ff.trans s1, s2, fun a o e => ?_⟩, q⟩
  rcases n a with z | z
  · rw [z] at e; exact g.nw a o e
  · exact .inr z.2.2
theorem Owv.keep {v : V} {d : D} (h : Owv K Z F H v d) (s : Same F F') (n : ∀ b, isC d = true → v = .ref b → F' b = F b) : Owv K Z F' H v d := by
  cases d with
  | list ds =>
    obtain ⟨a, xs, e1, e2, e3, e4, e5⟩ := h
    exact ⟨a, xs, e1, e2, (n a rfl e1).trans e3, e4, e5.mono s⟩
  | dict es =>
    obtain ⟨a, xs, e1, e2, e3, e4, e5⟩ := h
    exact ⟨a, xs, e1, e2, (n a rfl e1).trans e3, e4, e5.mono s⟩
  | none => exact Dn.mono s _ _ h
  | bool b => exact Dn.mono s _ _ h
  | int i => exact Dn.mono s _ _ h
  | str x => exact Dn.mono s _ _ h
  | tuple xs => exact Dn.mono s _ _ h
/-- one owner less -/
theorem Rel.drop1 (r : Rel K F0 H0 O ρ σ F H) (k : Nat) : ∃ F', Same F F' ∧ Rel K F0 H0 (O.filter (· != k)) ρ σ F' H := by
  have hm : ∀ i, i ∈ O.filter (· != k) ↔ i ∈ O ∧ i ≠ k := fun i => by simp
  have base : (∀ d, k ∈ O → ρ[k]? = some (some d) → ∃ v, σ[k]? = some (some v) ∧ Dn K F v d) → Rel K F0 H0 (O.filter (· != k)) ρ σ F H := fun hk =>
    ⟨r.len, r.sfh, r.s0, r.sf0, r.nw, fun i d h1 h2 => by
      by_cases e : i ∈ O
      · have : i = k := Classical.byContradiction fun z => h1 ((hm i).mpr ⟨e, z⟩)
        subst this
        exact hk d e h2
      · exact r.fz i d e h2, fun i d h1 h2 => r.ow i d ((hm i).mp h1).1 h2, fun i j d e a h1 h2 => r.ap i j d e a ((hm i).mp h1).1 ((hm j).mp h2).1⟩
  by_cases ho : k ∈ O
  · cases hd : ρ[k]? with
    | none => exact ⟨F, Same.refl _, base fun d _ h => by rw [hd] at h; cases h⟩
    | some od =>
      cases od with
      | none => exact ⟨F, Same.refl _, base fun d _ h => by rw [hd] at h; cases h⟩
      | some d =>
        obtain ⟨v, e1, e2⟩ := r.ow k d ho hd
        by_cases hc : isC d = true
        · obtain ⟨F', s1, s2, n, q⟩ := e2.let_go r.sfh
          refine ⟨F', s1, r.len, s2, r.s0, r.sf0.trans s1, fun a o e => ?_, fun i d' h1 h2 => ?_, fun i d' h1 h2 => ?_, fun i j d e a h1 h2 => r.ap i j d e a ((hm i).mp h1).1 ((hm j).mp h2).1⟩
          · rcases n a with z | z
            · rw [z] at e; exact r.nw a o e
            · exact .inr z.2.2
          · by_cases hk : i = k
            · subst hk
              rw [hd] at h2; cases h2
              exact ⟨v, e1, q⟩
            · obtain ⟨v', p1, p2⟩ := r.fz i d' (fun z => h1 ((hm i).mpr ⟨z, hk⟩)) h2
              exact ⟨v', p1, p2.mono s1⟩
          · obtain ⟨h1, hk⟩ := (hm i).mp h1
            obtain ⟨v', p1, p2⟩ := r.ow i d' h1 h2
            refine ⟨v', p1, p2.keep s1 fun b hc' ev => ?_⟩
            rcases n b with z | z
            · exact z
            · exact (r.ap i k d' d b h1 ho hk h2 hd hc' hc (by rw [p1, ev]) (by rw [e1, z.1])).elim
        · have hc' : isC d = false := by simpa using hc
          exact ⟨F, Same.refl _, base fun d' _ h => by
            rw [hd] at h; cases h
            exact ⟨v, e1, by rw [Owv.flat hc'] at e2; exact e2⟩⟩
  · exact ⟨F, Same.refl _, base fun d h => absurd h ho⟩
theorem Rel.ext (r : Rel K F0 H0 O ρ σ F H) {O' : List Nat} (h : ∀ i, i ∈ O ↔ i ∈ O') : Rel K F0 H0 O' ρ σ F H :=
  ⟨r.len, r.sfh, r.s0, r.sf0, r.nw, fun i d h1 => r.fz i d fun z => h1 ((h i).mp z), fun i d h1 => r.ow i d ((h i).mpr h1), fun i j d e a h1 h2 => r.ap i j d e a ((h i).mpr h1) ((h j).mpr h2)⟩
theorem Rel.dropL : ∀ (L : List Nat) {O : List Nat} {F : Hp}, Rel K F0 H0 O ρ σ F H → ∃ F', Same F F' ∧ Rel K F0 H0 (O.filter fun i => !L.contains i) ρ σ F' H
  | [], O, F, r => ⟨F, Same.refl _, r.ext fun i => by simp⟩
  | k :: L, O, F, r => by
    obtain ⟨F1, s1, r1⟩ := r.drop1 k
    obtain ⟨F2, s2, r2⟩ := Rel.dropL L r1
    refine ⟨F2, s1.trans s2, r2.ext fun i => ?_⟩
    simp only [List.mem_filter, List.contains_cons, Bool.not_or, Bool.and_eq_true, bne_iff_ne, ne_eq, Bool.not_eq_true', beq_eq_false_iff_ne]
    constructor
    · rintro ⟨⟨a, b⟩, c⟩; exact ⟨a, b, c⟩
    · rintro ⟨a, b, c⟩; exact ⟨⟨a, b⟩, c⟩
/-- fewer owners -/
theorem Rel.sub (r : Rel K F0 H0 O ρ σ F H) {O' : List Nat} (h : ∀ i ∈ O', i ∈ O) : ∃ F', Same F F' ∧ Rel K F0 H0 O' ρ σ F' H := by
  obtain ⟨F', s, r'⟩ := Rel.dropL (O.filter fun i => !O'.contains i) r
  refine ⟨F', s, r'.ext fun i => ?_⟩
  simp only [List.mem_filter, Bool.not_eq_true', List.contains_eq_mem, decide_eq_false_iff_not, not_and, Classical.not_not]
  constructor
  · rintro ⟨a, b⟩; exact b a
  · intro a; exact ⟨h i a, fun _ => a⟩
end

/-! ### readings -/
section
variable {K : PySem.W.Frag} {mg : Str → Option Value} {W : WX} {F0 H0 : Hp} {O : List Nat}
/-- an expression's reading: frozen, read only, owned -/
def tE (K : PySem.W.Frag) (mg : Str → Option Value) (W : WX) (F0 H0 : Hp) (O : List Nat) (f : Env → Res D) : TE := fun σ H Q => ∃ ρ F, Rel K F0 H0 O ρ σ F H ∧ RQ K mg W σ F H (f ρ) fun d => ∀ v F' H', Gr F H F' H' → Dn K F' v d → Q v H'
def tR (K : PySem.W.Frag) (mg : Str → Option Value) (W : WX) (F0 H0 : Hp) (O : List Nat) (f : Env → Res D) : TE := fun σ H Q => ∃ ρ F, Rel K F0 H0 O ρ σ F H ∧ RQ K mg W σ F H (f ρ) fun d => ∀ v F' H', Gr F H F' H' → Br K F' H' v d → Q v H'
def tO (K : PySem.W.Frag) (mg : Str → Option Value) (W : WX) (F0 H0 : Hp) (O : List Nat) (f : Env → Res D) : TE := fun σ H Q => ∃ ρ F, Rel K F0 H0 O ρ σ F H ∧ RQ K mg W σ F H (f ρ) fun d => ∀ v F' H', Gr F H F' H' → Owv K H F' H' v d → Q v H'
/-- a test's -/
def tT (K : PySem.W.Frag) (mg : Str → Option Value) (W : WX) (F0 H0 : Hp) (O : List Nat) (f : Env → Res Bool) : TT := fun σ H Q => ∃ ρ F, Rel K F0 H0 O ρ σ F H ∧ RQ K mg W σ F H (f ρ) fun b => ∀ F' H', Gr F H F' H' → Q b H'
/-- arguments': frozen, read only -/
def tA (K : PySem.W.Frag) (mg : Str → Option Value) (W : WX) (F0 H0 : Hp) (O : List Nat) (f : Env → Res (List D)) : TA := fun σ H Q => ∃ ρ F, Rel K F0 H0 O ρ σ F H ∧ RQ K mg W σ F H (f ρ) fun ds => ∀ vs F' H', Gr F H F' H' → DnL K F' vs ds → Q vs H'
inductive BrL (K : PySem.W.Frag) (F H : Hp) : List V → List D → Prop
  | nil : BrL K F H [] []
  | cons {v : V} {vs : List V} {d : D} {ds : List D} : Br K F H v d → BrL K F H vs ds → BrL K F H (v :: vs) (d :: ds)
theorem BrL.grow {F H F' H' : Hp} (g : Gr F H F' H') : ∀ {ds : List D} {vs : List V}, BrL K F H vs ds → BrL K F' H' vs ds
  | [], _, h => by cases h; exact .nil
  | d :: ds, _, h => by
    cases h with
    | cons h1 h2 => exact .cons (h1.mono g) (BrL.grow g h2)
theorem DnL.br {F H : Hp} : ∀ {ds : List D} {vs : List V}, DnL K F vs ds → BrL K F H vs ds
  | [], _, h => by cases h; exact .nil
  | d :: ds, _, h => by
    cases h with
    | cons h1 h2 => exact .cons (.dn h1) (DnL.br h2)
def tAR (K : PySem.W.Frag) (mg : Str → Option Value) (W : WX) (F0 H0 : Hp) (O : List Nat) (f : Env → Res (List D)) : TA := fun σ H Q => ∃ ρ F, Rel K F0 H0 O ρ σ F H ∧ RQ K mg W σ F H (f ρ) fun ds => ∀ vs F' H', Gr F H F' H' → BrL K F' H' vs ds → Q vs H'

theorem RQ.later {α : Type} {σ : St} {F H F1 H1 : Hp} {r : Res α} {Q Q' : α → Prop} (h : RQ K mg W σ F H r Q) (s : Same H H1) (i : ∀ a, Q a → Q' a) : RQ K mg W σ F1 H1 r Q' := by
  cases r with
  | ok a => exact i a h
  | exc x => exact fun cls d H' e z => h cls d H' (s.trans e) z
  | bad => exact h
/-- one step, then another -/
theorem RQ.seq {α β : Type} {σ : St} {F H : Hp} {r : Res α} {k : α → Res β} {Q : β → Prop} (h : RQ K mg W σ F H (r >>= k) Q) : RQ K mg W σ F H r fun a => RQ K mg W σ F H (k a) Q := by
  cases r with
  | ok a => exact h
  | exc x => exact h
  | bad => exact h
theorem PE.of {X : Cx} {e : Expr} {t t' : TE} (h : PE X e t) (i : ∀ σ H Q, t' σ H Q → t σ H Q) : PE X e t' := ⟨fun pins s σ H Q I q => h.run pins s σ H Q I (i σ H Q q)⟩
theorem PT.of {X : Cx} {e : Expr} {t t' : TT} (h : PT X e t) (i : ∀ σ H Q, t' σ H Q → t σ H Q) : PT X e t' := ⟨fun pins s σ H Q I q => h.run pins s σ H Q I (i σ H Q q)⟩
theorem PW.of {X : Cx} {e : Expr} {t t' : TT} (h : PW X e t) (i : ∀ σ H Q, t' σ H Q → t σ H Q) : PW X e t' := ⟨fun w pins s σ H Q I q => h.run w pins s σ H Q I (i σ H Q q)⟩
theorem PA.of {X : Cx} {es : List Expr} {t t' : TA} (h : PA X es t) (i : ∀ σ H Q, t' σ H Q → t σ H Q) : PA X es t' := ⟨fun pos pins s σ H Q I q => h.run pos pins s σ H Q I (i σ H Q q)⟩
theorem PS.of {X : Cx} {e : Stmt} {t t' : TS} (h : PS X e t) (i : ∀ D σ H, t' D σ H → t D σ H) : PS X e t' := ⟨fun pins s σ H D I q => h.run pins s σ H D I (i D σ H q)⟩
theorem PSs.of {X : Cx} {e : List Stmt} {t t' : TS} (h : PSs X e t) (i : ∀ D σ H, t' D σ H → t D σ H) : PSs X e t' := ⟨fun pins s σ H D I q => h.run pins s σ H D I (i D σ H q)⟩
section
variable {X : Cx} {e : Expr} {f : Env → Res D}
theorem PE.r_of_e (h : PE X e (tE K mg W F0 H0 O f)) : PE X e (tR K mg W F0 H0 O f) := PE.of h fun σ H Q ⟨ρ, F, r, q⟩ => ⟨ρ, F, r, q.imp fun d _ k v F' H' g n => k v F' H' g (.dn n)⟩
theorem PE.e_of_o (h : PE X e (tO K mg W F0 H0 O f)) : PE X e (tE K mg W F0 H0 O f) := PE.of h fun σ H Q ⟨ρ, F, r, q⟩ => ⟨ρ, F, r, q.imp fun d _ k v F' H' g n => by
  obtain ⟨F2, g2, n2⟩ := n.dn g
  exact k v F2 H' g2 n2⟩
end
end
end Ev

set_option Elab.async false
set_option linter.all false
set_option maxRecDepth 100000
set_option maxHeartbeats 4000000
/-! The evaluator, part C: combinators and their readings; operators on data. -/
namespace Ev
open PySem L2

@[reducible] def line : Nat := 16777216
theorem line_eq : (sizeLine : Nat) = line := by rw [sizeLine_eq]
def ofO {α : Type} : Option α → Res α
  | some a => .ok a
  | none => .bad
@[simp] theorem ofO_some {α : Type} (a : α) : ofO (some a) = .ok a := rfl
@[simp] theorem ofO_none {α : Type} : (ofO none : Res α) = .bad := rfl
def cSlot (i : Nat) : Env → Res D := fun ρ => match ρ[i]? with
  | some (some d) => .ok d
  | _ => .bad
def cLit (d : D) : Env → Res D := fun _ => .ok d
def c1 (g : D → Option D) (f : Env → Res D) : Env → Res D := fun ρ => do
  let a ← f ρ
  ofO (g a)
def c2 (g : D → D → Option D) (f h : Env → Res D) : Env → Res D := fun ρ => do
  let a ← f ρ
  let b ← h ρ
  ofO (g a b)
def cs (fs : List (Env → Res D)) : Env → Res (List D) := fun ρ => match fs with
  | [] => .ok []
  | f :: r => do
    let a ← f ρ
    let as ← cs r ρ
    .ok (a :: as)
def cN (g : List D → Option D) (fs : List (Env → Res D)) : Env → Res D := fun ρ => do
  let as ← cs fs ρ
  ofO (g as)
def asB : D → Res Bool
  | .bool b => .ok b
  | _ => .bad
def cB (f : Env → Res D) : Env → Res Bool := fun ρ => do
  let a ← f ρ
  asB a
def cAnd (f h : Env → Res D) : Env → Res D := fun ρ => do
  let b ← cB f ρ
  if b = true then h ρ else .ok (.bool false)
def cOr (f h : Env → Res D) : Env → Res D := fun ρ => do
  let b ← cB f ρ
  if b = true then .ok (.bool true) else h ρ
def cNot (f : Env → Res D) : Env → Res D := fun ρ => do
  let b ← cB f ρ
  .ok (.bool !b)
def cIf (c f h : Env → Res D) : Env → Res D := fun ρ => do
  let b ← cB c ρ
  if b = true then f ρ else h ρ
def cTup (fs : List (Env → Res D)) : Env → Res D := cN (fun as => if as.length ≤ line then some (.tuple as) else none) fs
def cLst (fs : List (Env → Res D)) : Env → Res D := cN (fun as => if as.length ≤ line then some (.list as) else none) fs
def cChain (g h : D → D → Option D) (fa fb fc : Env → Res D) : Env → Res D := fun ρ => do
  let a ← fa ρ
  let b ← fb ρ
  let z ← ofO (g a b)
  let k ← asB z
  if k = true then do
    let c ← fc ρ
    ofO (h b c)
  else .ok (.bool false)

section
variable {X : Cx} {W : WX} {F0 H0 : Hp} {O : List Nat}
abbrev xE (X : Cx) (W : WX) (F0 H0 : Hp) (O : List Nat) (f : Env → Res D) : TE := tE X.K X.mg W F0 H0 O f
abbrev xR (X : Cx) (W : WX) (F0 H0 : Hp) (O : List Nat) (f : Env → Res D) : TE := tR X.K X.mg W F0 H0 O f
abbrev xO (X : Cx) (W : WX) (F0 H0 : Hp) (O : List Nat) (f : Env → Res D) : TE := tO X.K X.mg W F0 H0 O f
abbrev xT (X : Cx) (W : WX) (F0 H0 : Hp) (O : List Nat) (f : Env → Res Bool) : TT := tT X.K X.mg W F0 H0 O f
abbrev xA (X : Cx) (W : WX) (F0 H0 : Hp) (O : List Nat) (f : Env → Res (List D)) : TA := tA X.K X.mg W F0 H0 O f
abbrev xAR (X : Cx) (W : WX) (F0 H0 : Hp) (O : List Nat) (f : Env → Res (List D)) : TA := tAR X.K X.mg W F0 H0 O f

theorem Owv.z {K : PySem.W.Frag} {Z Z' F H : Hp} {v : V} {d : D} (h : Owv K Z F H v d) (s : ∀ a, Z a = none → Z' a = none) : Owv K Z' F H v d := by
  cases d with
  | list ds =>
    obtain ⟨a, xs, e1, e2, e3⟩ := h
    exact ⟨a, xs, e1, s a e2, e3⟩
  | dict ds =>
    obtain ⟨a, xs, e1, e2, e3⟩ := h
    exact ⟨a, xs, e1, s a e2, e3⟩
  | none => exact h
  | bool b => exact h
  | int i => exact h
  | str x => exact h
  | tuple xs => exact h

/-! ### names, constants -/
theorem pe_slotR {i : Nat} {x : Str} {pos : Pos} (hN : X.N[i]? = some x) (hv : Vis X.env.scope x) (hd : (x == ("__debug__" : Str)) = false) (hcd : (x == ("__classdict__" : Str)) = false) : PE X (.Name x pos) (xR X W F0 H0 O (cSlot i)) :=
  PE.of (pe_var hN hv hd hcd) fun σ H Q ⟨ρ, F, r, q⟩ => by
    unfold cSlot at q
    split at q
    · rename_i d e
      obtain ⟨v, e1, e2⟩ := r.br e
      exact ⟨v, e1, q v F H (Gr.refl r.sfh) e2⟩
    · exact False.elim q
theorem pe_slotE {i : Nat} {x : Str} {pos : Pos} (ho : i ∉ O) (hN : X.N[i]? = some x) (hv : Vis X.env.scope x) (hd : (x == ("__debug__" : Str)) = false) (hcd : (x == ("__classdict__" : Str)) = false) : PE X (.Name x pos) (xE X W F0 H0 O (cSlot i)) :=
  PE.of (pe_var hN hv hd hcd) fun σ H Q ⟨ρ, F, r, q⟩ => by
    unfold cSlot at q
    split at q
    · rename_i d e
      obtain ⟨v, e1, e2⟩ := r.fz i d ho e
      exact ⟨v, e1, q v F H (Gr.refl r.sfh) e2⟩
    · exact False.elim q
theorem lit_of {d : D} {v : V} (hd : ∀ F : Hp, Dn X.K F v d) (σ : St) (H : Hp) (Q : VK) (h : xE X W F0 H0 O (cLit d) σ H Q) : tC v σ H Q := by
  obtain ⟨ρ, F, r, q⟩ := h
  exact q v F H (Gr.refl r.sfh) (hd F)
theorem pe_litI {i : Int} {j pos} : PE X (.Constant (.int i) j pos) (xE X W F0 H0 O (cLit (.int i))) := PE.of pe_int (lit_of fun _ => .int i)
theorem pe_litB {b : Bool} {j pos} : PE X (.Constant (.bool b) j pos) (xE X W F0 H0 O (cLit (.bool b))) := PE.of pe_bl (lit_of fun _ => .bl b)
theorem pe_litN {j pos} : PE X (.Constant .none j pos) (xE X W F0 H0 O (cLit .none)) := PE.of pe_non (lit_of fun _ => .non)
theorem pe_litS {x : Str} {j pos} : PE X (.Constant (.str x) j pos) (xE X W F0 H0 O (cLit (.str x))) := PE.of pe_str (lit_of fun _ => .str x)
/-- a scalar as a value -/
def scV : D → Option V
  | .none => some .non
  | .bool b => some (.bl b)
  | .int i => some (.int i)
  | .str x => some (.str x)
  | _ => none
theorem scV_dn {K : PySem.W.Frag} {d : D} {v : V} (h : scV d = some v) (F : Hp) : Dn K F v d := by
  cases d <;> simp only [scV, Option.some.injEq] at h <;> first | (subst h; constructor) | cases h
theorem pe_const {x : Str} {d : D} {v : V} {u : Value} {pos : Pos} (hg : Gl X x) (hm : X.mg x = some u) (hs : scV d = some v) (hr : RelV v u) (hd : (x == ("__debug__" : Str)) = false) : PE X (.Name x pos) (xE X W F0 H0 O (cLit d)) :=
  PE.of (pe_glob hg hm hr hd) (lit_of (scV_dn hs))

/-! ### operators by values -/
/-- what a rule of two values must do with data -/
def Op2 (K : PySem.W.Frag) (r : R2) (g : D → D → Option D) : Prop :=
  ∀ (F H : Hp) (x y : V) (a b c : D) (Q : VK), Same F H → Br K F H x a → Br K F H y b → g a b = some c → (∀ v F' H', Gr F H F' H' → Owv K H F' H' v c → Q v H') → r x y H Q
/-- the same, what comes is not new -/
def Op2E (K : PySem.W.Frag) (r : R2) (g : D → D → Option D) : Prop :=
  ∀ (F H : Hp) (x y : V) (a b c : D) (Q : VK), Same F H → Br K F H x a → Br K F H y b → g a b = some c → (∀ v F' H', Gr F H F' H' → Dn K F' v c → Q v H') → r x y H Q
theorem op2O {r : R2} {g : D → D → Option D} {fa fb : Env → Res D} (o : Op2 X.K r g) (σ : St) (H : Hp) (Q : VK) (h : xO X W F0 H0 O (c2 g fa fb) σ H Q) : tOp r (xR X W F0 H0 O fa) (xR X W F0 H0 O fb) σ H Q := by
  obtain ⟨ρ, F, rel, q⟩ := h
  refine ⟨ρ, F, rel, (RQ.seq q).imp fun a _ q1 v1 F1 H1 g1 b1 => ?_⟩
  refine ⟨ρ, F1, rel.grow g1, (RQ.seq q1).later g1.hh fun b q2 v2 F2 H2 g2 b2 => ?_⟩
  cases e : g a b with
  | none => rw [e] at q2; exact False.elim q2
  | some c =>
    rw [e] at q2
    exact o F2 H2 v1 v2 a b c Q g2.fh (b1.mono g2) b2 e fun v F' H' g' w => q2 v F' H' (g1.trans (g2.trans g')) (w.z fun p z => g1.hh.free (g2.hh.free z))
theorem op2E {r : R2} {g : D → D → Option D} {fa fb : Env → Res D} (o : Op2E X.K r g) (σ : St) (H : Hp) (Q : VK) (h : xE X W F0 H0 O (c2 g fa fb) σ H Q) : tOp r (xR X W F0 H0 O fa) (xR X W F0 H0 O fb) σ H Q := by
  obtain ⟨ρ, F, rel, q⟩ := h
  refine ⟨ρ, F, rel, (RQ.seq q).imp fun a _ q1 v1 F1 H1 g1 b1 => ?_⟩
  refine ⟨ρ, F1, rel.grow g1, (RQ.seq q1).later g1.hh fun b q2 v2 F2 H2 g2 b2 => ?_⟩
  cases e : g a b with
  | none => rw [e] at q2; exact False.elim q2
  | some c =>
    rw [e] at q2
    exact o F2 H2 v1 v2 a b c Q g2.fh (b1.mono g2) b2 e fun v F' H' g' w => q2 v F' H' (g1.trans (g2.trans g')) w
variable {a b : Expr} {fa fb : Env → Res D} {pos : Pos}
theorem pe_bin {op : Operator} {r : R2} {g : D → D → Option D} (ho : OpR X (binaryOp op) r) (o : Op2 X.K r g) (ha : PE X a (xR X W F0 H0 O fa)) (hb : PE X b (xR X W F0 H0 O fb)) : PE X (.BinOp a op b pos) (xO X W F0 H0 O (c2 g fa fb)) :=
  PE.of (pe_op ho ha hb) (op2O o)
theorem pe_cmp2 {op : CmpOp} {r : R2} {g : D → D → Option D} (ho : OpR X (compareOp op) r) (o : Op2 X.K r g) (ha : PE X a (xR X W F0 H0 O fa)) (hb : PE X b (xR X W F0 H0 O fb)) (hm : behindInMarks op b = false) : PE X (.Compare a [op] [b] pos) (xO X W F0 H0 O (c2 g fa fb)) :=
  PE.of (pe_cmpR ho ha hb hm) (op2O o)
/-- a flat result from a rule that leaves the heap -/
theorem Op2.flat {K : PySem.W.Frag} {r : R2} {g : D → D → Option D} (h : ∀ (F H : Hp) (x y : V) (a b c : D) (Q : VK), Same F H → Br K F H x a → Br K F H y b → g a b = some c → ∃ v, (∀ F, Dn K F v c) ∧ isC c = false ∧ (Q v H → r x y H Q)) : Op2 K r g := by
  intro F H x y a b c Q s b1 b2 e k
  obtain ⟨v, h1, h2, h3⟩ := h F H x y a b c Q s b1 b2 e
  exact h3 (k v F H (Gr.refl s) (by rw [Owv.flat h2]; exact h1 F))

/-! ### tests -/
theorem asB_ok {d : D} {b : Bool} (h : asB d = .ok b) : d = .bool b := by
  cases d <;> simp [asB] at h <;> first | (subst h; rfl) | cases h
theorem asB_cases (d : D) : (∃ b, d = .bool b ∧ asB d = .ok b) ∨ asB d = .bad := by
  cases d <;> first | exact .inr rfl | exact .inl ⟨_, rfl, rfl⟩
theorem test_of {f : Env → Res D} (σ : St) (H : Hp) (Q : Bool → Hp → Prop) (h : xT X W F0 H0 O (cB f) σ H Q) : tTest (xE X W F0 H0 O f) σ H Q := by
  obtain ⟨ρ, F, rel, q⟩ := h
  refine ⟨ρ, F, rel, (RQ.seq q).imp fun a _ q1 v F1 H1 g n => ?_⟩
  rcases asB_cases a with ⟨k, rfl, e⟩ | e
  · rw [e] at q1
    cases n
    exact ⟨k, rfl, q1 F1 H1 g⟩
  · rw [e] at q1; exact False.elim q1
theorem tB_of {f : Env → Res D} (σ : St) (H : Hp) (Q : Bool → Hp → Prop) (h : xT X W F0 H0 O (cB f) σ H Q) : tB (xE X W F0 H0 O f) σ H Q := test_of σ H Q h
theorem pe_andE {op} {rest : List Expr} {fa fb : Env → Res D} (hop : op = BoolOp.And) (ha : PE X a (xE X W F0 H0 O fa)) (hb : PE X (.BoolOp op (b :: rest) pos) (xE X W F0 H0 O fb)) : PE X (.BoolOp op (a :: b :: rest) pos) (xE X W F0 H0 O (cAnd fa fb)) := by
  subst hop
  refine PE.of (pe_and ha hb) fun σ H Q ⟨ρ, F, rel, q⟩ => ?_
  refine ⟨ρ, F, rel, (RQ.seq (RQ.seq q)).imp fun d _ q1 v F1 H1 g n => ?_⟩
  rcases asB_cases d with ⟨k, rfl, e⟩ | e
  · rw [e] at q1
    cases n
    refine ⟨k, rfl, ?_⟩
    cases k with
    | true =>
      refine iteT ⟨ρ, F1, rel.grow g, RQ.later (show RQ X.K X.mg W σ F H (fb ρ) _ from q1) g.hh fun d q2 v2 F2 H2 g2 n2 => q2 v2 F2 H2 (g.trans g2) n2⟩
    | false => exact iteF (q1 _ F1 H1 g (.bl false))
  · rw [e] at q1; exact False.elim q1
theorem pe_orE {op} {rest : List Expr} {fa fb : Env → Res D} (hop : op = BoolOp.Or) (ha : PE X a (xE X W F0 H0 O fa)) (hb : PE X (.BoolOp op (b :: rest) pos) (xE X W F0 H0 O fb)) : PE X (.BoolOp op (a :: b :: rest) pos) (xE X W F0 H0 O (cOr fa fb)) := by
  subst hop
  refine PE.of (pe_or ha hb) fun σ H Q ⟨ρ, F, rel, q⟩ => ?_
  refine ⟨ρ, F, rel, (RQ.seq (RQ.seq q)).imp fun d _ q1 v F1 H1 g n => ?_⟩
  rcases asB_cases d with ⟨k, rfl, e⟩ | e
  · rw [e] at q1
    cases n
    refine ⟨k, rfl, ?_⟩
    cases k with
    | false =>
      refine iteF ⟨ρ, F1, rel.grow g, RQ.later (show RQ X.K X.mg W σ F H (fb ρ) _ from q1) g.hh fun d q2 v2 F2 H2 g2 n2 => q2 v2 F2 H2 (g.trans g2) n2⟩
    | true => exact iteT (q1 _ F1 H1 g (.bl true))
  · rw [e] at q1; exact False.elim q1
theorem pe_notE {fa : Env → Res D} (ha : PE X a (xE X W F0 H0 O fa)) : PE X (.UnaryOp .Not a pos) (xE X W F0 H0 O (cNot fa)) := by
  refine PE.of (pe_not ha) fun σ H Q ⟨ρ, F, rel, q⟩ => ?_
  refine ⟨ρ, F, rel, (RQ.seq (RQ.seq q)).imp fun d _ q1 v F1 H1 g n => ?_⟩
  rcases asB_cases d with ⟨k, rfl, e⟩ | e
  · rw [e] at q1
    cases n
    exact ⟨k, rfl, q1 _ F1 H1 g (.bl _)⟩
  · rw [e] at q1; exact False.elim q1
/-- the tests' own forms -/
theorem RQ.cB {σ : St} {F H : Hp} {ρ : Env} {f : Env → Res D} {Q : Bool → Prop} (h : RQ X.K X.mg W σ F H (cB f ρ) Q) : RQ X.K X.mg W σ F H (f ρ) fun d => ∃ b, d = .bool b ∧ Q b := by
  refine (RQ.seq h).imp fun d _ q => ?_
  rcases asB_cases d with ⟨k, rfl, e⟩ | e
  · rw [e] at q; exact ⟨k, rfl, q⟩
  · rw [e] at q; exact False.elim q
theorem cB_and (fa fb : Env → Res D) (ρ : Env) : Ev.cB (cAnd fa fb) ρ = (Ev.cB fa ρ >>= fun b => if b = true then Ev.cB fb ρ else .ok false) := by
  show ((Ev.cB fa ρ >>= fun b => if b = true then fb ρ else .ok (.bool false)) >>= asB) = _
  cases Ev.cB fa ρ with
  | ok b => cases b <;> rfl
  | exc x => rfl
  | bad => rfl
theorem cB_or (fa fb : Env → Res D) (ρ : Env) : Ev.cB (cOr fa fb) ρ = (Ev.cB fa ρ >>= fun b => if b = true then .ok true else Ev.cB fb ρ) := by
  show ((Ev.cB fa ρ >>= fun b => if b = true then .ok (.bool true) else fb ρ) >>= asB) = _
  cases Ev.cB fa ρ with
  | ok b => cases b <;> rfl
  | exc x => rfl
  | bad => rfl
theorem pw_andT {rest : List Expr} {fa fb : Env → Res D} (ha : PT X a (xT X W F0 H0 O (cB fa))) (hb : PW X (.BoolOp .And (b :: rest) pos) (xT X W F0 H0 O (cB fb))) : PW X (.BoolOp .And (a :: b :: rest) pos) (xT X W F0 H0 O (cB (cAnd fa fb))) := by
  refine PW.of (pw_and ha hb) fun σ H Q ⟨ρ, F, rel, q⟩ => ?_
  rw [cB_and] at q
  refine ⟨ρ, F, rel, (RQ.seq q).imp fun k _ q1 F1 H1 g => ?_⟩
  cases k with
  | true => exact iteT ⟨ρ, F1, rel.grow g, RQ.later (show RQ X.K X.mg W σ F H (Ev.cB fb ρ) _ from q1) g.hh fun d q2 F2 H2 g2 => q2 F2 H2 (g.trans g2)⟩
  | false => exact iteF (q1 F1 H1 g)
theorem pw_orT {rest : List Expr} {fa fb : Env → Res D} (ha : PT X a (xT X W F0 H0 O (cB fa))) (hb : PW X (.BoolOp .Or (b :: rest) pos) (xT X W F0 H0 O (cB fb))) : PW X (.BoolOp .Or (a :: b :: rest) pos) (xT X W F0 H0 O (cB (cOr fa fb))) := by
  refine PW.of (pw_or ha hb) fun σ H Q ⟨ρ, F, rel, q⟩ => ?_
  rw [cB_or] at q
  refine ⟨ρ, F, rel, (RQ.seq q).imp fun k _ q1 F1 H1 g => ?_⟩
  cases k with
  | false => exact iteF ⟨ρ, F1, rel.grow g, RQ.later (show RQ X.K X.mg W σ F H (Ev.cB fb ρ) _ from q1) g.hh fun d q2 F2 H2 g2 => q2 F2 H2 (g.trans g2)⟩
  | true => exact iteT (q1 F1 H1 g)
theorem pt_notT {fa : Env → Res D} (ha : PT X a (xT X W F0 H0 O (cB fa))) : PT X (.UnaryOp .Not a pos) (xT X W F0 H0 O (cB (cNot fa))) := by
  refine PT.of (pt_not ha) fun σ H Q ⟨ρ, F, rel, q⟩ => ?_
  exact ⟨ρ, F, rel, (RQ.seq (RQ.seq q)).imp fun k _ q1 F1 H1 g => q1 F1 H1 g⟩
theorem pe_ifE {c : Expr} {fc fa fb : Env → Res D} (hc : PT X c (xT X W F0 H0 O (cB fc))) (ha : PE X a (xE X W F0 H0 O fa)) (hb : PE X b (xE X W F0 H0 O fb)) : PE X (.IfExp c a b pos) (xE X W F0 H0 O (cIf fc fa fb)) := by
  refine PE.of (pe_ifExp hc ha hb) fun σ H Q ⟨ρ, F, rel, q⟩ => ?_
  refine ⟨ρ, F, rel, (RQ.seq q).imp fun k _ q1 F1 H1 g => ?_⟩
  cases k with
  | true => exact iteT ⟨ρ, F1, rel.grow g, RQ.later (show RQ X.K X.mg W σ F H (fa ρ) _ from q1) g.hh fun d q2 v2 F2 H2 g2 n2 => q2 v2 F2 H2 (g.trans g2) n2⟩
  | false => exact iteF ⟨ρ, F1, rel.grow g, RQ.later (show RQ X.K X.mg W σ F H (fb ρ) _ from q1) g.hh fun d q2 v2 F2 H2 g2 n2 => q2 v2 F2 H2 (g.trans g2) n2⟩

/-! ### chains -/
theorem chain_rd {r r' : R2} {g h : D → D → Option D} {fa fb fc : Env → Res D} (o : Op2 X.K r g) (o' : Op2 X.K r' h) (σ : St) (H : Hp) (Q : VK) (hh : xE X W F0 H0 O (cChain g h fa fb fc) σ H Q) :
    tChain r r' (xR X W F0 H0 O fa) (xR X W F0 H0 O fb) (xR X W F0 H0 O fc) σ H Q := by
  obtain ⟨ρ, F, rel, q⟩ := hh
  refine ⟨ρ, F, rel, (RQ.seq q).imp fun a _ q1 v1 F1 H1 g1 b1 => ?_⟩
  refine ⟨ρ, F1, rel.grow g1, (RQ.seq q1).later g1.hh fun b q2 v2 F2 H2 g2 b2 => ?_⟩
  cases e : g a b with
  | none => rw [e] at q2; exact False.elim q2
  | some c =>
    rw [e] at q2
    refine o F2 H2 v1 v2 a b c _ g2.fh (b1.mono g2) b2 e fun v F' H' g' w => ?_
    rcases asB_cases c with ⟨k, rfl, e'⟩ | e'
    · have q3 := q2
      simp only [ofO_some, Res.ok_bind, e'] at q3
      cases w
      refine ⟨k, rfl, ?_⟩
      have gg := g1.trans (g2.trans g')
      cases k with
      | true =>
        rw [if_pos rfl] at q3
        refine iteT ⟨ρ, F', rel.grow gg, (RQ.seq q3).later gg.hh fun z q4 v3 F3 H3 g3 b3 => ?_⟩
        cases e2 : h b z with
        | none => rw [e2] at q4; exact False.elim q4
        | some z' =>
          rw [e2] at q4
          refine o' F3 H3 v2 v3 b z z' Q g3.fh ((b2.mono g').mono g3) b3 e2 fun v F4 H4 g4 w4 => ?_
          obtain ⟨F5, g5, n5⟩ := w4.dn g4
          exact q4 v F5 H4 (gg.trans (g3.trans g5)) n5
      | false =>
        rw [if_neg Bool.false_ne_true] at q3
        exact iteF (q3 _ F' H' gg (.bl false))
    · simp only [ofO_some, Res.ok_bind, e', Res.bad_bind] at q2
      exact False.elim q2
theorem pe_chainE {op op' : CmpOp} {r r' : R2} {g h : D → D → Option D} {c : Expr} {fc : Env → Res D} (ho : OpR X (compareOp op) r) (ho' : OpR X (compareOp op') r') (o : Op2 X.K r g) (o' : Op2 X.K r' h)
    (ha : PE X a (xR X W F0 H0 O fa)) (hb : PE X b (xR X W F0 H0 O fb)) (hc : PE X c (xR X W F0 H0 O fc)) (hm : lastMarks [op, op'] [b, c] = false) : PE X (.Compare a [op, op'] [b, c] pos) (xE X W F0 H0 O (cChain g h fa fb fc)) :=
  PE.of (pe_chain ho ho' ha hb hc hm) (chain_rd o o')
theorem pt_chainT {op op' : CmpOp} {r r' : R2} {g h : D → D → Option D} {c : Expr} {fc : Env → Res D} (ho : OpR X (compareOp op) r) (ho' : OpR X (compareOp op') r') (o : Op2 X.K r g) (o' : Op2 X.K r' h)
    (ha : PE X a (xR X W F0 H0 O fa)) (hb : PE X b (xR X W F0 H0 O fb)) (hc : PE X c (xR X W F0 H0 O fc)) (hm : lastMarks [op, op'] [b, c] = false) : PT X (.Compare a [op, op'] [b, c] pos) (xT X W F0 H0 O (cB (cChain g h fa fb fc))) :=
  PT.of (pt_chain ho ho' ha hb hc hm) fun σ H Q q => by
    have q' := test_of σ H Q q
    exact chain_rd o o' σ H _ q'
theorem pt_cmp2 {op : CmpOp} {r : R2} {g : D → D → Option D} (ho : OpR X (compareOp op) r) (o : Op2 X.K r g) (ha : PE X a (xR X W F0 H0 O fa)) (hb : PE X b (xR X W F0 H0 O fb)) (hm : behindInMarks op b = false) : PT X (.Compare a [op] [b] pos) (xT X W F0 H0 O (cB (c2 g fa fb))) :=
  PT.of (pt_cmpR ho ha hb hm) fun σ H Q q => by
    have q' := test_of σ H Q q
    refine op2O o σ H _ ?_
    obtain ⟨ρ, F, rel, z⟩ := q'
    refine ⟨ρ, F, rel, z.imp fun d _ k v F' H' g' w => ?_⟩
    obtain ⟨F5, g5, n5⟩ := w.dn g'
    exact k v F5 H' g5 n5

/-! ### arguments -/
variable {es : List Expr} {fs : List (Env → Res D)}
theorem pa_nilE : PA X [] (xA X W F0 H0 O (cs [])) := PA.of pa_nil fun σ H Q ⟨ρ, F, rel, q⟩ => q [] F H (Gr.refl rel.sfh) .nil
theorem pa_consE {e : Expr} {f : Env → Res D} (ha : PE X e (xE X W F0 H0 O f)) (hr : PA X es (xA X W F0 H0 O (cs fs))) (hs : starEach (e :: es) X.env = (false, eval e X.env) :: starEach es X.env) : PA X (e :: es) (xA X W F0 H0 O (cs (f :: fs))) :=
  PA.of (pa_cons ha hr hs) fun σ H Q ⟨ρ, F, rel, q⟩ => by
    refine ⟨ρ, F, rel, (RQ.seq q).imp fun a _ q1 v1 F1 H1 g1 n1 => ?_⟩
    refine ⟨ρ, F1, rel.grow g1, (RQ.seq q1).later g1.hh fun as q2 vs F2 H2 g2 n2 => ?_⟩
    exact q2 (v1 :: vs) F2 H2 (g1.trans g2) (.cons (n1.mono g2.ff) n2)
theorem pa_nilR : PA X [] (xAR X W F0 H0 O (cs [])) := PA.of pa_nil fun σ H Q ⟨ρ, F, rel, q⟩ => q [] F H (Gr.refl rel.sfh) .nil
theorem pa_consR {e : Expr} {f : Env → Res D} (ha : PE X e (xR X W F0 H0 O f)) (hr : PA X es (xAR X W F0 H0 O (cs fs))) (hs : starEach (e :: es) X.env = (false, eval e X.env) :: starEach es X.env) : PA X (e :: es) (xAR X W F0 H0 O (cs (f :: fs))) :=
  PA.of (pa_cons ha hr hs) fun σ H Q ⟨ρ, F, rel, q⟩ => by
    refine ⟨ρ, F, rel, (RQ.seq q).imp fun a _ q1 v1 F1 H1 g1 n1 => ?_⟩
    refine ⟨ρ, F1, rel.grow g1, (RQ.seq q1).later g1.hh fun as q2 vs F2 H2 g2 n2 => ?_⟩
    exact q2 (v1 :: vs) F2 H2 (g1.trans g2) (.cons (n1.mono g2) n2)
theorem pe_tupE {x1} (h : PA X es (xA X W F0 H0 O (cs fs))) : PE X (.Tuple es x1 pos) (xE X W F0 H0 O (cTup fs)) :=
  PE.of (pe_tup h) fun σ H Q ⟨ρ, F, rel, q⟩ => by
    refine ⟨ρ, F, rel, (RQ.seq q).imp fun as _ q1 vs F1 H1 g1 n1 => ?_⟩
    dsimp only at q1
    by_cases hl : as.length ≤ line
    · rw [if_pos hl] at q1
      refine ⟨by rw [n1.length, line_eq]; exact hl, fun p hp => ?_⟩
      have g2 := Gr.new (o := .tup vs) g1.fh hp
      exact q1 _ _ _ (g1.trans g2) (.tup (SqT.of upd_same) (n1.mono g2.ff))
    · rw [if_neg hl] at q1; exact False.elim q1
theorem pe_lstO (h : PA X es (xA X W F0 H0 O (cs fs))) : PE X (.List es pos) (xO X W F0 H0 O (cLst fs)) :=
  PE.of (pe_lst h) fun σ H Q ⟨ρ, F, rel, q⟩ => by
    refine ⟨ρ, F, rel, (RQ.seq q).imp fun as _ q1 vs F1 H1 g1 n1 => ?_⟩
    dsimp only at q1
    by_cases hl : as.length ≤ line
    · rw [if_pos hl] at q1
      refine ⟨by rw [n1.length, line_eq]; exact hl, fun p hp => ?_⟩
      have g2 := Gr.out (o := .lst vs) g1.fh hp
      refine q1 _ _ _ (g1.trans g2) ⟨p, vs, rfl, g1.hh.free hp, ?_, upd_same, n1⟩
      cases z : F1 p with
      | none => rfl
      | some o => have := g1.fh p o z; rw [hp] at this; cases this
    · rw [if_neg hl] at q1; exact False.elim q1
end
end Ev

set_option Elab.async false
set_option linter.all false
set_option maxRecDepth 100000
set_option maxHeartbeats 4000000
/-! The evaluator, part D: operators on data. -/
namespace Ev
open PySem L2

def small64 (i : Int) : Bool := decide (-(2 ^ 64) < i) && decide (i < 2 ^ 64)
def addD : D → D → Option D
  | .int i, .int j => some (.int (i + j))
  | .str a, .str b => if a.length + b.length ≤ line then some (.str (a ++ b)) else none
  | .list a, .list b => if a.length + b.length ≤ line then some (.list (a ++ b)) else none
  | .tuple a, .tuple b => if a.length + b.length ≤ line then some (.tuple (a ++ b)) else none
  | _, _ => none
def subD : D → D → Option D
  | .int i, .int j => some (.int (i - j))
  | _, _ => none
/-- a text so many times -/
def repS (a : Str) (n : Nat) : Str := ⟨(List.replicate n a.cps).foldl (· ++ ·) #[]⟩
def mulD : D → D → Option D
  | .int i, .int j => if small64 i || small64 j then some (.int (i * j)) else none
  | .str a, .int n => if 1 ≤ n ∧ n < 1000 ∧ 1 ≤ a.length ∧ a.length < 1000 then some (.str (repS a n.toNat)) else none
  | _, _ => none
def modD : D → D → Option D
  | .int i, .int j => if 0 < j then some (.int (i % j)) else none
  | _, _ => none
def fdivD : D → D → Option D
  | .int i, .int j => if 0 < j ∧ j.natAbs.log2 < 9000 then some (.int (i / j)) else none
  | _, _ => none
def powD : D → D → Option D
  | .int i, .int j => if 0 ≤ j ∧ j ≤ 1000000 ∧ i.natAbs < 2 ^ 64 then some (.int (i ^ j.toNat)) else none
  | _, _ => none
def shrD : D → D → Option D
  | .int i, .int j => if 0 ≤ j then some (.int (i / 2 ^ j.toNat)) else none
  | _, _ => none
def shlD : D → D → Option D
  | .int i, .int j => if 0 ≤ j ∧ j ≤ 1000000 ∧ i.natAbs < 2 ^ 64 then some (.int (i * 2 ^ j.toNat)) else none
  | _, _ => none
def andD : D → D → Option D
  | .int i, .int j => some (.int (Builtin.bitAnd i j))
  | _, _ => none
/-- == -/
def eqB : D → D → Option Bool
  | .int i, .int j => some (decide (i = j))
  | .str a, .str b => some (decide (a = b))
  | .bool a, .bool b => some (decide (a = b))
  | .none, .none => some true
  | d, e => if SeqAt.shaped d = true ∧ SeqAt.shaped e = true then some (PyData.eqv d e) else none
def eqD (d e : D) : Option D := (eqB d e).map .bool
def neD (d e : D) : Option D := (eqB d e).map fun b => .bool !b
def ltD (d e : D) : Option D := match d, e with
  | .int i, .int j => some (.bool (decide (i < j)))
  | .str a, .str b => some (.bool (decide (a.cps.toList < b.cps.toList)))
  | .tuple xs, .tuple ys => if W.alikeAll xs ys = true ∧ SeqAt.shaped (.tuple xs) = true ∧ SeqAt.shaped (.tuple ys) = true then some (.bool (W.dataLt (.tuple xs) (.tuple ys))) else none
  | _, _ => none
def leD : D → D → Option D
  | .int i, .int j => some (.bool (decide (i ≤ j)))
  | .str a, .str b => some (.bool (!decide (b.cps.toList < a.cps.toList)))
  | _, _ => none
def gtD : D → D → Option D
  | .int i, .int j => some (.bool (decide (j < i)))
  | .str a, .str b => some (.bool (decide (b.cps.toList < a.cps.toList)))
  | _, _ => none
def geD : D → D → Option D
  | .int i, .int j => some (.bool (decide (j ≤ i)))
  | .str a, .str b => some (.bool (!decide (a.cps.toList < b.cps.toList)))
  | _, _ => none
/-- a text in a text -/
def inS (a b : Str) : Bool := !(Builtin.Str.occurrences b a 0 b.length 1).isEmpty
def keyOf : D → Option Key
  | .int i => some (.inl i)
  | .str x => some (.inr x)
  | _ => none
def getK (es : List (D × D)) (k : Key) : Option D := match es with
  | [] => none
  | (a, d) :: r => if keyOf a = some k then some d else getK r k
def inB : D → D → Option Bool
  | .str a, .str b => some (inS a b)
  | d, .list ds => if SeqAt.shaped d = true ∧ SeqAt.shaped (.list ds) = true then some (ds.any fun z => PyData.eqv z d) else none
  | d, .tuple ds => if SeqAt.shaped d = true ∧ SeqAt.shaped (.tuple ds) = true then some (ds.any fun z => PyData.eqv z d) else none
  | d, .dict es => (keyOf d).map fun k => (getK es k).isSome
  | _, _ => none
def inD (d e : D) : Option D := (inB d e).map .bool
def notInD (d e : D) : Option D := (inB d e).map fun b => .bool !b
def isD : D → D → Option D
  | .none, .none => some (.bool true)
  | .bool _, .none => some (.bool false)
  | .int _, .none => some (.bool false)
  | .str _, .none => some (.bool false)
  | .list _, .none => some (.bool false)
  | .tuple _, .none => some (.bool false)
  | .dict _, .none => some (.bool false)
  | _, _ => none
def isNotD (d e : D) : Option D := match isD d e with
  | some (.bool b) => some (.bool !b)
  | _ => none

section
variable {X : Cx}
/-! ### + on lists that are read -/
def rCatL (K : PySem.W.Frag) : R2 := fun x y H Q => ∃ l b xs zs, x = .ref l ∧ y = .ref b ∧ SqL K H l xs ∧ SqL K H b zs ∧ xs.length + zs.length ≤ sizeLine ∧ ∀ p, H p = none → Q (.ref p) (upd H p (.lst (xs ++ zs)))
theorem op_catL : OpR X (binaryOp .Add) (rCatL X.K) := by
  intro pins s σ H x y v u Q I rx ry h
  obtain ⟨l, b, xs, zs, rfl, rfl, hH, hB, hz, q⟩ := h
  cases rx
  cases ry
  obtain ⟨its, r, ⟨⟨cls, dd, data, sl⟩, n, ho, hc, hdn, hdt⟩, hl⟩ := I.list hH
  obtain ⟨its2, r2, ⟨⟨cls2, dd2, data2, sl2⟩, n2, ho2, hc2, hdn2, hdt2⟩, hl2⟩ := I.list hB
  simp only at hc hdt hc2 hdt2 hdn hdn2
  subst hc hdt hc2 hdt2 hdn hdn2
  have e1 := r.length
  have e2 := r2.length
  refine concat_meets ⟨_, ho, rfl⟩ ⟨_, ho2, rfl⟩ noFill_list_add seq_list_add PySem.F.slot_list_add PySem.F.entry_list_add (PySem.F.args_list_add_2 _ _)
    (PyProof.Rows.list_addW l b its.toArray its2.toArray n n2 none none sl sl2 (by rw [List.size_toArray, List.size_toArray, ← e1, ← e2]; exact hz)) ⟨ho, ho2, ?_⟩
  have ea : its.toArray ++ its2.toArray = (its ++ its2).toArray := by simp
  rw [ea]
  exact ⟨.ref _, _, I.lnew (t' := s.toks) (r.append r2) (by rw [List.length_append]; omega), rfl, q _ I.fresh⟩
def rAddX (K : PySem.W.Frag) : R2 := fun x y H Q =>
  (∃ i j, x = .int i ∧ y = .int j ∧ Q (.int (i + j)) H) ∨ (∃ i j, x = .str i ∧ y = .str j ∧ i.length + j.length ≤ sizeLine ∧ Q (.str (i ++ j)) H) ∨ rCatL K x y H Q ∨ rCatA K x y H Q
theorem op_addX : OpR X (binaryOp .Add) (rAddX X.K) := op_add.or (op_add_str.or (op_catL.or op_catA))
theorem noneOf {F H : Hp} (e : Same F H) {p : Addr} (h : H p = none) : F p = none := e.free h
theorem addD_ok : Op2 X.K (rAddX X.K) addD := by
  intro F H x y a b c Q s b1 b2 e k
  unfold addD at e
  split at e
  · cases e
    cases b1 with | dn h => cases h; cases b2 with | dn h => cases h; exact .inl ⟨_, _, rfl, rfl, k _ F H (Gr.refl s) (.int _)⟩
  · split at e
    · rename_i hl
      cases e
      cases b1 with | dn h => cases h; cases b2 with | dn h => cases h; exact .inr (.inl ⟨_, _, rfl, rfl, by rw [line_eq]; exact hl, k _ F H (Gr.refl s) (.str _)⟩)
    · cases e
  · split at e
    · rename_i hl
      cases e
      obtain ⟨p1, xs, rfl, q1, n1⟩ := b1.list s
      obtain ⟨p2, ys, rfl, q2, n2⟩ := b2.list s
      refine .inr (.inr (.inl ⟨p1, p2, xs, ys, rfl, rfl, q1, q2, by rw [n1.length, n2.length, line_eq]; exact hl, fun p hp => ?_⟩))
      exact k _ F _ (Gr.out s hp) ⟨p, _, rfl, hp, noneOf s hp, upd_same, n1.append n2⟩
    · cases e
  · split at e
    · rename_i hl
      cases e
      obtain ⟨p1, xs, rfl, q1, n1⟩ := b1.tuple
      obtain ⟨p2, ys, rfl, q2, n2⟩ := b2.tuple
      refine .inr (.inr (.inr ⟨p1, p2, xs, ys, rfl, rfl, seqT_same s q1, seqT_same s q2, by rw [n1.length, n2.length, line_eq]; exact hl, fun hx => ?_, fun hx hy => ?_, fun hx hy p hp => ?_⟩))
      · subst hx
        cases n1
        exact k _ F H (Gr.refl s) (.tup q2 n2)
      · subst hy
        cases n2
        rw [List.append_nil] at k
        exact k _ F H (Gr.refl s) (.tup q1 n1)
      · have g := Gr.new (o := .tup (xs ++ ys)) s hp
        exact k _ _ _ g (.tup (SqT.of upd_same) ((n1.append n2).mono g.ff))
    · cases e
  · cases e
theorem subD_ok : Op2 X.K (rI0 fun i j => .int (i - j)) subD := by
  intro F H x y a b c Q s b1 b2 e k
  unfold subD at e
  split at e
  · cases e
    cases b1 with | dn h => cases h; cases b2 with | dn h => cases h; exact ⟨_, _, rfl, rfl, k _ F H (Gr.refl s) (.int _)⟩
  · cases e
/-! ### * -/
theorem rep_size (c : Array Nat) : ∀ (n : Nat) (acc : Array Nat), ((List.replicate n c).foldl (· ++ ·) acc).size = acc.size + n * c.size
  | 0, acc => by simp
  | n + 1, acc => by rw [List.replicate_succ, List.foldl_cons, rep_size c n, Array.size_append, Nat.succ_mul]; omega
theorem repS_length (a : Str) (n : Nat) : (repS a n).length = n * a.length := by
  show ((List.replicate n a.cps).foldl (· ++ ·) #[]).size = n * a.cps.size
  rw [rep_size]; simp
def rMulS : R2 := fun x y H Q => ∃ a n, x = .str a ∧ y = .int n ∧ (1 ≤ n ∧ n < 1000 ∧ 1 ≤ a.length ∧ a.length < 1000) ∧ Q (.str (repS a n.toNat)) H
theorem op_mulS : OpR X (binaryOp .Mult) rMulS := by
  intro pins s σ H x y v u Q I rx ry h
  obtain ⟨a, n, rfl, rfl, ⟨h1, h2, h3, h4⟩, q⟩ := h
  obtain ⟨t, rfl⟩ := rx
  obtain ⟨t', rfl⟩ := ry
  refine PySem.P.mul_str ?_ (fun _ _ => ?_) (fun _ _ => ?_) ?_
  · rw [decide_eq_false (by omega), decide_eq_false (by omega)]; rfl
  · have hn : n ≤ 1000 := by omega
    have : (2 ^ 63 - 1) / (1000 : Int) ≤ (2 ^ 63 - 1) / n := by
      refine (Int.le_ediv_iff_mul_le (by omega)).mpr ?_
      have : (2 ^ 63 - 1) / (1000 : Int) = 9223372036854775 := by decide
      rw [this]
      have : (9223372036854775 : Int) * n ≤ 9223372036854775 * 1000 := Int.mul_le_mul_of_nonneg_left hn (by decide)
      omega
    have h1000 : (2 ^ 63 - 1) / (1000 : Int) = 9223372036854775 := by decide
    omega
  · have : a.length * n.toNat ≤ 1000 * 1000 := Nat.mul_le_mul (by omega) (by omega)
    have hs := line_eq
    have hl : line = 16777216 := rfl
    unfold PySem.Builtin.Str.tooLong
    simp only [decide_eq_false_iff_not, Nat.not_lt]
    omega
  · rw [if_neg (by omega)]
    by_cases h1' : n = 1
    · subst h1'
      rw [if_pos (by simp)]
      have e : repS a (1 : Int).toNat = a := by
        unfold repS
        have : (1 : Int).toNat = 1 := rfl
        rw [this]
        simp
      rw [e] at q
      exact ⟨.str a, H, I, ⟨_, rfl⟩, q⟩
    · rw [if_neg (by simp; omega)]
      exact ⟨by
        show (repS a n.toNat).length ≤ sizeLine
        rw [repS_length]
        have : n.toNat * a.length ≤ 1000 * 1000 := Nat.mul_le_mul (by omega) (by omega)
        have hs := line_eq
        have hl : line = 16777216 := rfl
        omega, .str (repS a n.toNat), H, I.tok _, ⟨_, rfl⟩, q⟩


def rMulX : R2 := fun x y H Q => (∃ i j, x = .int i ∧ y = .int j ∧ CMul i j ∧ Q (.int (i * j)) H) ∨ rMulS x y H Q
theorem op_mulX : OpR X (binaryOp .Mult) rMulX := op_mul.or op_mulS
/-- both scalars -/
theorem Br.int {K : PySem.W.Frag} {F H : Hp} {v : V} {i : Int} (h : Br K F H v (.int i)) : v = .int i := by
  cases h with | dn h => cases h; rfl
theorem Br.str {K : PySem.W.Frag} {F H : Hp} {v : V} {i : Str} (h : Br K F H v (.str i)) : v = .str i := by
  cases h with | dn h => cases h; rfl
theorem Br.bool {K : PySem.W.Frag} {F H : Hp} {v : V} {i : Bool} (h : Br K F H v (.bool i)) : v = .bl i := by
  cases h with | dn h => cases h; rfl
theorem Br.none {K : PySem.W.Frag} {F H : Hp} {v : V} (h : Br K F H v .none) : v = .non := by
  cases h with | dn h => cases h; rfl
theorem mulD_ok : Op2 X.K rMulX mulD := by
  intro F H x y a b c Q s b1 b2 e k
  unfold mulD at e
  split at e
  · split at e
    · rename_i hc
      cases e
      cases b1.int; cases b2.int
      refine .inl ⟨_, _, rfl, rfl, ?_, k _ F H (Gr.refl s) (.int _)⟩
      simp only [small64, Bool.or_eq_true, Bool.and_eq_true, decide_eq_true_eq] at hc
      exact hc
    · cases e
  · split at e
    · rename_i hc
      cases e
      cases b1.str; cases b2.int
      exact .inr ⟨_, _, rfl, rfl, hc, k _ F H (Gr.refl s) (.str _)⟩
    · cases e
  · cases e
theorem modD_ok : Op2 X.K (rI (fun _ j => 0 < j) fun i j => .int (i % j)) modD := by
  intro F H x y a b c Q s b1 b2 e k
  unfold modD at e
  split at e
  · split at e
    · rename_i hc
      cases e
      cases b1.int; cases b2.int
      exact ⟨_, _, rfl, rfl, hc, k _ F H (Gr.refl s) (.int _)⟩
    · cases e
  · cases e
theorem fdivD_ok : Op2 X.K (rI CDivW fun i j => .int (i / j)) fdivD := by
  intro F H x y a b c Q s b1 b2 e k
  unfold fdivD at e
  split at e
  · split at e
    · rename_i hc
      cases e
      cases b1.int; cases b2.int
      exact ⟨_, _, rfl, rfl, hc, k _ F H (Gr.refl s) (.int _)⟩
    · cases e
  · cases e
theorem powD_ok : Op2 X.K (rI CPow fun i j => .int (i ^ j.toNat)) powD := by
  intro F H x y a b c Q s b1 b2 e k
  unfold powD at e
  split at e
  · split at e
    · rename_i hc
      cases e
      cases b1.int; cases b2.int
      exact ⟨_, _, rfl, rfl, hc, k _ F H (Gr.refl s) (.int _)⟩
    · cases e
  · cases e
theorem shrD_ok : Op2 X.K (rI (fun _ j => 0 ≤ j) fun i j => .int (i / 2 ^ j.toNat)) shrD := by
  intro F H x y a b c Q s b1 b2 e k
  unfold shrD at e
  split at e
  · split at e
    · rename_i hc
      cases e
      cases b1.int; cases b2.int
      exact ⟨_, _, rfl, rfl, hc, k _ F H (Gr.refl s) (.int _)⟩
    · cases e
  · cases e
theorem shlD_ok : Op2 X.K (rI CPow fun i j => .int (i * 2 ^ j.toNat)) shlD := by
  intro F H x y a b c Q s b1 b2 e k
  unfold shlD at e
  split at e
  · split at e
    · rename_i hc
      cases e
      cases b1.int; cases b2.int
      exact ⟨_, _, rfl, rfl, hc, k _ F H (Gr.refl s) (.int _)⟩
    · cases e
  · cases e
theorem andD_ok : Op2 X.K (rI0 fun i j => .int (Builtin.bitAnd i j)) andD := by
  intro F H x y a b c Q s b1 b2 e k
  unfold andD at e
  split at e
  · cases e
    cases b1.int; cases b2.int
    exact ⟨_, _, rfl, rfl, k _ F H (Gr.refl s) (.int _)⟩
  · cases e
/-! ### == != < .. -/
def rEqX (K : PySem.W.Frag) : R2 := fun x y H Q => rEq x y H Q ∨ rEqD K x y H Q
def rNeX (K : PySem.W.Frag) : R2 := fun x y H Q => rNe x y H Q ∨ rNeD K x y H Q
theorem op_eqX (hu : X.A.units + 65 < cLine) : OpR X (compareOp .Eq) (rEqX X.K) := op_eq.or (op_eqD (by omega))
theorem op_neX (hu : X.A.units + 65 < cLine) : OpR X (compareOp .NotEq) (rNeX X.K) := op_ne.or (op_neD (by omega))
theorem eqB_ok {K : PySem.W.Frag} {F H : Hp} {x y : V} {a b : D} {t : Bool} (s : Same F H) (b1 : Br K F H x a) (b2 : Br K F H y b) (e : eqB a b = some t) :
    (scal x y = true ∧ t = decide (x = y)) ∨ ∃ d e, Dp K H x d ∧ Dp K H y e ∧ SeqAt.shaped d = true ∧ SeqAt.shaped e = true ∧ t = PyData.eqv d e := by
  unfold eqB at e
  split at e
  · cases e; cases b1.int; cases b2.int
    exact .inl ⟨rfl, by simp⟩
  · cases e; cases b1.str; cases b2.str
    exact .inl ⟨rfl, by simp⟩
  · cases e; cases b1.bool; cases b2.bool
    exact .inl ⟨rfl, by simp⟩
  · cases e; cases b1.none; cases b2.none
    exact .inl ⟨rfl, by simp⟩
  · split at e
    · rename_i hc
      cases e
      exact .inr ⟨_, _, (b1.full s).dp _ _ (SeqAt.canLay_of_shaped hc.1), (b2.full s).dp _ _ (SeqAt.canLay_of_shaped hc.2), hc.1, hc.2, rfl⟩
    · cases e
theorem eqD_ok : Op2 X.K (rEqX X.K) eqD := by
  intro F H x y a b c Q s b1 b2 e k
  unfold eqD at e
  cases q : eqB a b with
  | none => rw [q] at e; cases e
  | some t =>
    rw [q] at e; cases e
    have kk := k (.bl t) F H (Gr.refl s) (.bl t)
    rcases eqB_ok s b1 b2 q with ⟨h1, h2⟩ | ⟨d, e, h1, h2, h3, h4, h5⟩
    · exact .inl ⟨h1, by rw [← h2]; exact kk⟩
    · exact .inr ⟨d, e, h1, h2, h3, h4, by rw [← h5]; exact kk⟩
theorem neD_ok : Op2 X.K (rNeX X.K) neD := by
  intro F H x y a b c Q s b1 b2 e k
  unfold neD at e
  cases q : eqB a b with
  | none => rw [q] at e; cases e
  | some t =>
    rw [q] at e; cases e
    have kk := k (.bl !t) F H (Gr.refl s) (.bl !t)
    rcases eqB_ok s b1 b2 q with ⟨h1, h2⟩ | ⟨d, e, h1, h2, h3, h4, h5⟩
    · exact .inl ⟨h1, by rw [← h2]; exact kk⟩
    · exact .inr ⟨d, e, h1, h2, h3, h4, by rw [← h5]; exact kk⟩
/-- tuples of alike places -/
def rLtTD (K : PySem.W.Frag) : R2 := fun x y H Q => ∃ xs ys, Dp K H x (.tuple xs) ∧ Dp K H y (.tuple ys) ∧ W.alikeAll xs ys = true ∧ SeqAt.shaped (.tuple xs) = true ∧ Q (.bl (W.dataLt (.tuple xs) (.tuple ys))) H
theorem op_ltTD (hu : X.A.units + 65 < cLine) : OpR X (compareOp .Lt) (rLtTD X.K) := by
  intro pins s σ H x y v u Q I rx ry h
  obtain ⟨xs, ys, h1, h2, h3, h4, q⟩ := h
  obtain ⟨as, r1⟩ := Dp.reads I _ x v h1 rx
  obtain ⟨bs, r2⟩ := Dp.reads I _ y u h2 ry
  have hd := SeqAt.depth_of_shaped h4
  exact W.rcLt_alike (.tuple xs) (.tuple ys) X.A s v u as bs r1 r2 (by simpa [W.alike] using h3) (fun z => nomatch z) (Nat.lt_of_le_of_lt (Nat.add_le_add_left (Nat.le_trans (Nat.min_le_left _ _) hd) _) (by omega)) X.prog X.w X.xe _ ⟨.bl _, H, I, rfl, q⟩
def rLtX (K : PySem.W.Frag) : R2 := fun x y H Q => (∃ i j, x = .int i ∧ y = .int j ∧ Q (.bl (decide (i < j))) H) ∨ (∃ i j, x = .str i ∧ y = .str j ∧ Q (.bl (decide (i.cps.toList < j.cps.toList))) H) ∨ rLtTD K x y H Q
theorem op_ltX (hu : X.A.units + 65 < cLine) : OpR X (compareOp .Lt) (rLtX X.K) := op_lt.or (op_lt_str.or (op_ltTD hu))
theorem ltD_ok : Op2 X.K (rLtX X.K) ltD := by
  intro F H x y a b c Q s b1 b2 e k
  unfold ltD at e
  split at e
  · cases e; cases b1.int; cases b2.int
    exact .inl ⟨_, _, rfl, rfl, k _ F H (Gr.refl s) (.bl _)⟩
  · cases e; cases b1.str; cases b2.str
    exact .inr (.inl ⟨_, _, rfl, rfl, k _ F H (Gr.refl s) (.bl _)⟩)
  · split at e
    · rename_i hc
      cases e
      exact .inr (.inr ⟨_, _, (b1.full s).dp _ _ (SeqAt.canLay_of_shaped hc.2.1), (b2.full s).dp _ _ (SeqAt.canLay_of_shaped hc.2.2), hc.1, hc.2.1, k _ F H (Gr.refl s) (.bl _)⟩)
    · cases e
  · cases e
def rIS (f : Int → Int → Bool) (g : Str → Str → Bool) : R2 := fun x y H Q => (∃ i j, x = .int i ∧ y = .int j ∧ Q (.bl (f i j)) H) ∨ (∃ i j, x = .str i ∧ y = .str j ∧ Q (.bl (g i j)) H)
theorem op_leX : OpR X (compareOp .LtE) (rIS (fun i j => decide (i ≤ j)) fun i j => !decide (j.cps.toList < i.cps.toList)) := op_le.or op_le_str
theorem op_gtX : OpR X (compareOp .Gt) (rIS (fun i j => decide (j < i)) fun i j => decide (j.cps.toList < i.cps.toList)) := op_gt.or op_gt_str
theorem op_geX : OpR X (compareOp .GtE) (rIS (fun i j => decide (j ≤ i)) fun i j => !decide (i.cps.toList < j.cps.toList)) := op_ge.or op_ge_str
theorem leD_ok : Op2 X.K (rIS (fun i j => decide (i ≤ j)) fun i j => !decide (j.cps.toList < i.cps.toList)) leD := by
  intro F H x y a b c Q s b1 b2 e k
  unfold leD at e
  split at e
  · cases e; cases b1.int; cases b2.int; exact .inl ⟨_, _, rfl, rfl, k _ F H (Gr.refl s) (.bl _)⟩
  · cases e; cases b1.str; cases b2.str; exact .inr ⟨_, _, rfl, rfl, k _ F H (Gr.refl s) (.bl _)⟩
  · cases e
theorem gtD_ok : Op2 X.K (rIS (fun i j => decide (j < i)) fun i j => decide (j.cps.toList < i.cps.toList)) gtD := by
  intro F H x y a b c Q s b1 b2 e k
  unfold gtD at e
  split at e
  · cases e; cases b1.int; cases b2.int; exact .inl ⟨_, _, rfl, rfl, k _ F H (Gr.refl s) (.bl _)⟩
  · cases e; cases b1.str; cases b2.str; exact .inr ⟨_, _, rfl, rfl, k _ F H (Gr.refl s) (.bl _)⟩
  · cases e
theorem geD_ok : Op2 X.K (rIS (fun i j => decide (j ≤ i)) fun i j => !decide (i.cps.toList < j.cps.toList)) geD := by
  intro F H x y a b c Q s b1 b2 e k
  unfold geD at e
  split at e
  · cases e; cases b1.int; cases b2.int; exact .inl ⟨_, _, rfl, rfl, k _ F H (Gr.refl s) (.bl _)⟩
  · cases e; cases b1.str; cases b2.str; exact .inr ⟨_, _, rfl, rfl, k _ F H (Gr.refl s) (.bl _)⟩
  · cases e
/-! ### in, is -/
def rInT (K : PySem.W.Frag) : R2 := fun x y H Q => ∃ d ds, Dp K H x d ∧ Dp K H y (.tuple ds) ∧ SeqAt.shaped d = true ∧ SeqAt.shaped (.tuple ds) = true ∧ Q (.bl (ds.any fun z => PyData.eqv z d)) H
def rNotInT (K : PySem.W.Frag) : R2 := fun x y H Q => ∃ d ds, Dp K H x d ∧ Dp K H y (.tuple ds) ∧ SeqAt.shaped d = true ∧ SeqAt.shaped (.tuple ds) = true ∧ Q (.bl (!ds.any fun z => PyData.eqv z d)) H
theorem op_inT (hu : X.A.units + 65 < cLine) : OpR X (compareOp .In) (rInT X.K) := by
  intro pins s σ H x y v u Q I rx ry h
  obtain ⟨d, ds, hd, he, sd, se, q⟩ := h
  obtain ⟨as, r1⟩ := Dp.reads I d x v hd rx
  obtain ⟨bs, r2⟩ := Dp.reads I (.tuple ds) y u he ry
  exact SeqAt.in_tuple_reads r2 r1 (SeqAt.canLay_of_shaped se) (SeqAt.canLay_of_shaped sd) (PyProof.Rows.room_in_shaped sd hu) ⟨.bl _, H, I, rfl, q⟩
theorem op_notInT (hu : X.A.units + 65 < cLine) : OpR X (compareOp .NotIn) (rNotInT X.K) := by
  intro pins s σ H x y v u Q I rx ry h
  obtain ⟨d, ds, hd, he, sd, se, q⟩ := h
  obtain ⟨as, r1⟩ := Dp.reads I d x v hd rx
  obtain ⟨bs, r2⟩ := Dp.reads I (.tuple ds) y u he ry
  exact SeqAt.notIn_tuple_reads r2 r1 (SeqAt.canLay_of_shaped se) (SeqAt.canLay_of_shaped sd) (PyProof.Rows.room_in_shaped sd hu) ⟨.bl _, H, I, rfl, q⟩
def rInDk : R2 := fun x y H Q => ∃ a o, y = .ref a ∧ DGet H a x o ∧ Q (.bl o.isSome) H
def rNotInDk : R2 := fun x y H Q => ∃ a o, y = .ref a ∧ DGet H a x o ∧ Q (.bl (!o.isSome)) H
theorem op_inDk (hu : X.A.units + 1 < cLine) : OpR X (compareOp .In) rInDk := by
  intro pins s σ H x y v u Q I rx ry h
  obtain ⟨a, o, rfl, g, q⟩ := h
  cases ry
  exact d_in hu I g rx fun s' I' => ⟨.bl _, H, I', rfl, q⟩
theorem op_notInDk (hu : X.A.units + 1 < cLine) : OpR X (compareOp .NotIn) rNotInDk := by
  intro pins s σ H x y v u Q I rx ry h
  obtain ⟨a, o, rfl, g, q⟩ := h
  cases ry
  exact d_notIn hu I g rx fun s' I' => ⟨.bl _, H, I', rfl, q⟩
theorem keyOf_kD (k : Key) : keyOf (kD k) = some k := by cases k <;> rfl
theorem kV_dn {K : PySem.W.Frag} {F : Hp} {v : V} {d : D} {k : Key} (h : Dn K F v d) (e : keyOf d = some k) : v = kV k := by
  cases d <;> simp [keyOf] at e
  · subst e; cases h; rfl
  · subst e; cases h; rfl
theorem getK_ok {K : PySem.W.Frag} {F : Hp} (k : Key) : ∀ {es : List (D × D)} {ks : List (Key × V)}, DnK K F ks es → (∃ v d, valV ks k = some v ∧ getK es k = some d ∧ Dn K F v d) ∨ (valV ks k = none ∧ getK es k = none)
  | [], _, h => by cases h; exact .inr ⟨rfl, rfl⟩
  | (a, d) :: es, _, h => by
    cases h with
    | @cons k' v ks d es h1 h2 =>
      by_cases e : k' = k
      · subst e
        exact .inl ⟨v, d, valV_pos rfl, by simp [getK, keyOf_kD], h1⟩
      · have e' : ¬ keyOf (kD k') = some k := by rw [keyOf_kD]; simpa using e
        rcases getK_ok k h2 with ⟨v', d', q1, q2, q3⟩ | ⟨q1, q2⟩
        · exact .inl ⟨v', d', by rw [valV_neg e]; exact q1, by simp only [getK]; rw [if_neg e']; exact q2, q3⟩
        · exact .inr ⟨by rw [valV_neg e]; exact q1, by simp only [getK]; rw [if_neg e']; exact q2⟩
def rInX (K : PySem.W.Frag) : R2 := fun x y H Q => (∃ i j, x = .str i ∧ y = .str j ∧ Q (.bl (!(Builtin.Str.occurrences j i 0 j.length 1).isEmpty)) H) ∨ rInD K x y H Q ∨ rInT K x y H Q ∨ rInDk x y H Q
def rNotInX (K : PySem.W.Frag) : R2 := fun x y H Q => (∃ i j, x = .str i ∧ y = .str j ∧ Q (.bl (!(!(Builtin.Str.occurrences j i 0 j.length 1).isEmpty))) H) ∨ rNotInD K x y H Q ∨ rNotInT K x y H Q ∨ rNotInDk x y H Q
theorem op_inX (hu : X.A.units + 65 < cLine) : OpR X (compareOp .In) (rInX X.K) := op_in_str.or ((op_inD hu).or ((op_inT hu).or (op_inDk (by omega))))
theorem op_notInX (hu : X.A.units + 65 < cLine) : OpR X (compareOp .NotIn) (rNotInX X.K) := op_notin_str.or ((op_notInD hu).or ((op_notInT hu).or (op_notInDk (by omega))))
theorem inD_ok : Op2 X.K (rInX X.K) inD := by
  intro F H x y a b c Q s b1 b2 e k
  unfold inD at e
  cases q : inB a b with
  | none => rw [q] at e; cases e
  | some t =>
    rw [q] at e; cases e
    have kk := k (.bl t) F H (Gr.refl s) (.bl t)
    unfold inB at q
    split at q
    · cases q; cases b1.str; cases b2.str
      exact .inl ⟨_, _, rfl, rfl, kk⟩
    · split at q
      · rename_i hc
        cases q
        exact .inr (.inl ⟨_, _, (b1.full s).dp _ _ (SeqAt.canLay_of_shaped hc.1), (b2.full s).dp _ _ (SeqAt.canLay_of_shaped hc.2), hc.1, hc.2, kk⟩)
      · cases q
    · split at q
      · rename_i hc
        cases q
        exact .inr (.inr (.inl ⟨_, _, (b1.full s).dp _ _ (SeqAt.canLay_of_shaped hc.1), (b2.full s).dp _ _ (SeqAt.canLay_of_shaped hc.2), hc.1, hc.2, kk⟩))
      · cases q
    · obtain ⟨p, ks, rfl, hp, hk⟩ := b2.dict s
      cases e1 : keyOf a with
      | none => rw [e1] at q; cases q
      | some k0 =>
        rw [e1] at q; cases q
        have hx := kV_dn (b1.full s) e1
        subst hx
        refine .inr (.inr (.inr ⟨p, _, rfl, DGet.k hp, ?_⟩))
        rcases getK_ok k0 hk with ⟨v, d, q1, q2, q3⟩ | ⟨q1, q2⟩
        · dsimp only at kk; rw [q1]; rw [q2] at kk; exact kk
        · dsimp only at kk; rw [q1]; rw [q2] at kk; exact kk
    · cases q
theorem notInD_ok : Op2 X.K (rNotInX X.K) notInD := by
  intro F H x y a b c Q s b1 b2 e k
  unfold notInD at e
  cases q : inB a b with
  | none => rw [q] at e; cases e
  | some t =>
    rw [q] at e; cases e
    have kk := k (.bl !t) F H (Gr.refl s) (.bl !t)
    unfold inB at q
    split at q
    · cases q; cases b1.str; cases b2.str
      exact .inl ⟨_, _, rfl, rfl, kk⟩
    · split at q
      · rename_i hc
        cases q
        exact .inr (.inl ⟨_, _, (b1.full s).dp _ _ (SeqAt.canLay_of_shaped hc.1), (b2.full s).dp _ _ (SeqAt.canLay_of_shaped hc.2), hc.1, hc.2, kk⟩)
      · cases q
    · split at q
      · rename_i hc
        cases q
        exact .inr (.inr (.inl ⟨_, _, (b1.full s).dp _ _ (SeqAt.canLay_of_shaped hc.1), (b2.full s).dp _ _ (SeqAt.canLay_of_shaped hc.2), hc.1, hc.2, kk⟩))
      · cases q
    · obtain ⟨p, ks, rfl, hp, hk⟩ := b2.dict s
      cases e1 : keyOf a with
      | none => rw [e1] at q; cases q
      | some k0 =>
        rw [e1] at q; cases q
        have hx := kV_dn (b1.full s) e1
        subst hx
        refine .inr (.inr (.inr ⟨p, _, rfl, DGet.k hp, ?_⟩))
        rcases getK_ok k0 hk with ⟨v, d, q1, q2, q3⟩ | ⟨q1, q2⟩
        · dsimp only at kk; rw [q1]; rw [q2] at kk; exact kk
        · dsimp only at kk; rw [q1]; rw [q2] at kk; exact kk
    · cases q
def rIsX : R2 := fun x y H Q => y = .non ∧ Q (.bl (decide (x = .non))) H
def rNotX : R2 := fun x y H Q => y = .non ∧ Q (.bl (!decide (x = .non))) H
theorem isD_ok0 {K : PySem.W.Frag} {F H : Hp} {x y : V} {a b c : D} (s : Same F H) (b1 : Br K F H x a) (b2 : Br K F H y b) (e : isD a b = some c) : y = .non ∧ c = .bool (decide (x = .non)) := by
  have hx := b1.full s
  unfold isD at e
  split at e <;> first | (cases e; cases b2.none; cases hx; exact ⟨rfl, by simp⟩) | cases e
theorem isD_ok : Op2 X.K rIsX isD := by
  intro F H x y a b c Q s b1 b2 e k
  obtain ⟨h1, h2⟩ := isD_ok0 s b1 b2 e
  subst h2
  exact ⟨h1, k _ F H (Gr.refl s) (.bl _)⟩
theorem isNotD_ok : Op2 X.K rNotX isNotD := by
  intro F H x y a b c Q s b1 b2 e k
  unfold isNotD at e
  cases q : isD a b with
  | none => rw [q] at e; cases e
  | some d =>
    obtain ⟨h1, h2⟩ := isD_ok0 s b1 b2 q
    subst h2
    rw [q] at e
    cases e
    exact ⟨h1, k _ F H (Gr.refl s) (.bl _)⟩
end
end Ev

set_option Elab.async false
set_option linter.all false
set_option maxRecDepth 100000
set_option maxHeartbeats 4000000
/-! The evaluator, part E: subscripts, slices, calls of built-ins. -/
namespace Ev
open PySem L2

/-! ### subscripts -/
def ixD : D → D → Option D
  | .list xs, .int i => atI xs i
  | .tuple xs, .int i => atI xs i
  | .str z, .int i => if z.length ≤ line then (atI z.cps.toList i).map fun c => .str ⟨#[c]⟩ else none
  | .dict es, d => match keyOf d with
    | some k => getK es k
    | none => none
  | _, _ => none
def cutD (xs : List D) (lo hi : Option Int) : List D := (xs.drop (HT.sIx xs.length 0 lo)).take (HT.sIx xs.length xs.length hi - HT.sIx xs.length 0 lo)
/-- a part of a slice -/
def cPart (f : Option (Env → Res D)) : Env → Res (Option Int) := fun ρ => match f with
  | none => .ok none
  | some f => do
    let d ← f ρ
    match d with
    | .int i => .ok (some i)
    | _ => .bad
def slD (d : D) (lo hi : Option Int) : Option D := match d with
  | .list xs => some (.list (cutD xs lo hi))
  | .tuple xs => some (.tuple (cutD xs lo hi))
  | .str z => if z.length ≤ line then some (.str (cutS z lo hi)) else none
  | _ => none
def cSl (f : Env → Res D) (l h : Option (Env → Res D)) : Env → Res D := fun ρ => do
  let a ← f ρ
  let lo ← cPart l ρ
  let hi ← cPart h ρ
  ofO (slD a lo hi)

theorem DnL.ix {K : PySem.W.Frag} {F : Hp} {vs : List V} {ds : List D} {i : Int} {d : D} (h : DnL K F vs ds) (e : atI ds i = some d) : ∃ v, atI vs i = some v ∧ Dn K F v d := by
  unfold atI at e ⊢
  rw [h.length]
  cases q : ixN ds.length i with
  | none => rw [q] at e; cases e
  | some j =>
    rw [q] at e
    exact h.get e
theorem DnL.cut {K : PySem.W.Frag} {F : Hp} {vs : List V} {ds : List D} (h : DnL K F vs ds) (lo hi : Option Int) : DnL K F (cutV vs lo hi) (cutD ds lo hi) := by
  unfold cutV cutD
  rw [h.length]
  exact (h.drop _).take _

section
variable {X : Cx} {W : WX} {F0 H0 : Hp} {O : List Nat} {a b : Expr} {fa fb : Env → Res D} {pos : Pos}
def rIxDk : R2 := fun x y H Q => ∃ a v, x = .ref a ∧ DGet H a y (some v) ∧ Q v H
theorem ix_dk (hu : X.A.units + 1 < cLine) : IxR X rIxDk := by
  intro value slice pins s σ H x y v u Q I rx ry h hs
  obtain ⟨p, z, rfl, g, q⟩ := h
  obtain rfl : v = Value.ref p := rx
  exact PyProof.Rows.tail_any (dict_typeIs I g) PySem.F.slot_dict_getitem.lookup (d_getItem hu I g ry fun w' s3 I3 rw' => ⟨z, H, I3, rw', q⟩) hs
def rIxX (K : PySem.W.Frag) : R2 := fun x y H Q => rIx K x y H Q ∨ rIxDk x y H Q
theorem ix_X (hu : X.A.units + 1 < cLine) : IxR X (rIxX X.K) := ix_seq.or (ix_dk hu)
theorem ixD_ok : Op2E X.K (rIxX X.K) ixD := by
  intro F H x y a b c Q s b1 b2 e k
  unfold ixD at e
  split at e
  · cases b2.int
    obtain ⟨p, xs, rfl, q, n⟩ := b1.list s
    obtain ⟨v, e1, e2⟩ := n.ix e
    exact .inl (.inl ⟨p, xs, _, v, rfl, rfl, q, e1, k v F H (Gr.refl s) e2⟩)
  · cases b2.int
    obtain ⟨p, xs, rfl, q, n⟩ := b1.tuple
    obtain ⟨v, e1, e2⟩ := n.ix e
    exact .inl (.inr (.inl ⟨p, xs, _, v, rfl, rfl, seqT_same s q, e1, k v F H (Gr.refl s) e2⟩))
  · cases b1.str; cases b2.int
    split at e
    · rename_i hl
      obtain ⟨c0, e1, rfl⟩ := Option.map_eq_some_iff.mp e
      exact .inl (.inr (.inr ⟨_, _, c0, rfl, rfl, by rw [line_eq]; exact hl, e1, k _ F H (Gr.refl s) (.str _)⟩))
    · cases e
  · split at e
    · rename_i k0 e1
      obtain ⟨p, ks, rfl, hp, hk⟩ := b1.dict s
      have hx := kV_dn (b2.full s) e1
      subst hx
      rcases getK_ok k0 hk with ⟨v, d, q1, q2, q3⟩ | ⟨q1, q2⟩
      · rw [q2] at e; cases e
        refine .inr ⟨p, v, rfl, ?_, k v F H (Gr.refl s) q3⟩
        rw [← q1]; exact DGet.k hp
      · rw [q2] at e; cases e
    · cases e
  · cases e
theorem pe_ixE (hu : X.A.units + 1 < cLine) (ha : PE X a (xR X W F0 H0 O fa)) (hb : PE X b (xR X W F0 H0 O fb)) (hs : PlainIx b) : PE X (.Subscript a b pos) (xE X W F0 H0 O (c2 ixD fa fb)) :=
  PE.of (pe_ix (ix_X hu) ha hb hs) (op2E ixD_ok)

/-! ### slices -/
def xPart (X : Cx) (W : WX) (F0 H0 : Hp) (O : List Nat) (f : Env → Res (Option Int)) : TO := fun σ H Q => ∃ ρ F, Rel X.K F0 H0 O ρ σ F H ∧ RQ X.K X.mg W σ F H (f ρ) fun o => ∀ F' H', Gr F H F' H' → Q o H'
theorem PO.of {e : Option Expr} {t t' : TO} (h : PO X e t) (i : ∀ σ H Q, t' σ H Q → t σ H Q) : PO X e t' := ⟨fun pins s σ H Q I q => h.run pins s σ H Q I (i σ H Q q)⟩
theorem po_noneX : PO X none (xPart X W F0 H0 O (cPart none)) := PO.of po_none fun σ H Q ⟨ρ, F, r, q⟩ => q F H (Gr.refl r.sfh)
theorem po_someX {e : Expr} {f : Env → Res D} (h : PE X e (xR X W F0 H0 O f)) : PO X (some e) (xPart X W F0 H0 O (cPart (some f))) := PO.of (po_some h) fun σ H Q ⟨ρ, F, r, q⟩ => by
  refine ⟨ρ, F, r, (RQ.seq q).imp fun d _ q1 v F1 H1 g b1 => ?_⟩
  cases d with
  | int i => exact ⟨i, b1.int, q1 F1 H1 g⟩
  | _ => exact False.elim q1
def rSlX (K : PySem.W.Frag) : V → Option Int → Option Int → Hp → VK → Prop := fun x lo hi H Q => rSlL K x lo hi H Q ∨ rSlA K x lo hi H Q ∨ rSlS x lo hi H Q
theorem sl_X : SlR X (rSlX X.K) := sl_list.or (sl_tupA.or sl_str)
theorem cutD_length (xs : List D) (lo hi : Option Int) : (cutD xs lo hi).length ≤ xs.length := by
  unfold cutD
  rw [List.length_take, List.length_drop]
  omega
theorem cut_all (xs : List D) (lo hi : Option Int) (h : HT.sIx xs.length 0 lo = 0 ∧ HT.sIx xs.length xs.length hi = xs.length) : cutD xs lo hi = xs := by
  unfold cutD
  rw [h.1, h.2]
  simp
theorem pe_slO {l h : Option Expr} {fl fh : Option (Env → Res D)} {p2 : Pos} (ha : PE X a (xR X W F0 H0 O fa)) (hl : PO X l (xPart X W F0 H0 O (cPart fl))) (hh : PO X h (xPart X W F0 H0 O (cPart fh))) :
    PE X (.Subscript a (.Slice l h none p2) pos) (xO X W F0 H0 O (cSl fa fl fh)) :=
  PE.of (pe_slice sl_X ha hl hh) fun σ H Q ⟨ρ, F, rel, q⟩ => by
    refine ⟨ρ, F, rel, (RQ.seq q).imp fun a _ q1 v1 F1 H1 g1 b1 => ?_⟩
    refine ⟨ρ, F1, rel.grow g1, (RQ.seq q1).later g1.hh fun lo q2 F2 H2 g2 => ?_⟩
    refine ⟨ρ, F2, (rel.grow g1).grow g2, (RQ.seq q2).later (g1.hh.trans g2.hh) fun hi q3 F3 H3 g3 => ?_⟩
    have gg := g1.trans (g2.trans g3)
    have b3 := (b1.mono g2).mono g3
    have s := g3.fh
    cases a with
    | list xs =>
      obtain ⟨p, ys, rfl, qq, n⟩ := b3.list s
      refine .inl ⟨p, ys, rfl, qq, fun r hr => ?_⟩
      exact q3 _ F3 _ (gg.trans (Gr.out s hr)) ⟨r, _, rfl, gg.hh.free hr, noneOf s hr, upd_same, n.cut lo hi⟩
    | tuple xs =>
      obtain ⟨p, ys, rfl, qq, n⟩ := b3.tuple
      refine .inr (.inl ⟨p, ys, rfl, seqT_same s qq, fun hw => ?_, fun hw r hr => ?_⟩)
      · rw [n.length] at hw
        have e := cut_all xs lo hi hw
        refine q3 _ F3 _ gg ?_
        show Dn X.K F3 (.ref p) (.tuple (cutD xs lo hi))
        rw [e]
        exact .tup qq n
      · have g := Gr.new (o := .tup (cutV ys lo hi)) s hr
        exact q3 _ _ _ (gg.trans g) (.tup (SqT.of upd_same) ((n.cut lo hi).mono g.ff))
    | str z =>
      cases b3.str
      dsimp only [slD] at q3
      by_cases hz : z.length ≤ line
      · rw [if_pos hz] at q3
        exact .inr (.inr ⟨z, rfl, by rw [line_eq]; exact hz, q3 _ F3 H3 gg (.str _)⟩)
      · rw [if_neg hz] at q3; exact False.elim q3
    | none => exact False.elim q3
    | bool _ => exact False.elim q3
    | int _ => exact False.elim q3
    | dict _ => exact False.elim q3

/-! ### calls of built-ins -/
def OpN (K : PySem.W.Frag) (r : List V → Hp → VK → Prop) (g : List D → Option D) : Prop :=
  ∀ (F H : Hp) (vs : List V) (as : List D) (c : D) (Q : VK), Same F H → BrL K F H vs as → g as = some c → (∀ v F' H', Gr F H F' H' → Owv K H F' H' v c → Q v H') → r vs H Q
theorem opN {r : List V → Hp → VK → Prop} {g : List D → Option D} {fs : List (Env → Res D)} (o : OpN X.K r g) (σ : St) (H : Hp) (Q : VK) (h : xO X W F0 H0 O (cN g fs) σ H Q) : tCB r (xAR X W F0 H0 O (cs fs)) σ H Q := by
  obtain ⟨ρ, F, rel, q⟩ := h
  refine ⟨ρ, F, rel, (RQ.seq q).imp fun as _ q1 vs F1 H1 g1 b1 => ?_⟩
  cases e : g as with
  | none => rw [e] at q1; exact False.elim q1
  | some c =>
    rw [e] at q1
    exact o F1 H1 vs as c Q g1.fh b1 e fun v F' H' g' w => q1 v F' H' (g1.trans g') (w.z fun p z => g1.hh.free z)
variable {x : Str} {p : Pos} {e : Expr} {es : List Expr} {fs : List (Env → Res D)} {bid T : String} {r : List V → Hp → VK → Prop} {g : List D → Option D}
theorem pe_biO (hc : CallR X (.builtin bid) r) (o : OpN X.K r g) (hg : Gl X x) (hm : X.mg x = none) (hv : bootBuiltins x = some (.builtin bid)) (ha : PA X (e :: es) (xAR X W F0 H0 O (cs fs))) (hn : x ≠ "__name__") (hdb : (x == ("__debug__" : Str)) = false)
    (he : starEach (e :: es) X.env = (false, eval e X.env) :: starEach es X.env) (hpl : (backTo pos (starEach es X.env)).any (·.1) = false) : PE X (.Call (.Name x p) (e :: es) [] pos) (xO X W F0 H0 O (cN g fs)) :=
  PE.of (pe_callB hc hg hm hv ha hn hdb he hpl) (opN o)
theorem pe_tyO (hc : CallR X (.type T) r) (o : OpN X.K r g) (hg : Gl X x) (hm : X.mg x = none) (hv : bootBuiltins x = some (.type T)) (ha : PA X (e :: es) (xAR X W F0 H0 O (cs fs))) (hn : x ≠ "__name__") (hdb : (x == ("__debug__" : Str)) = false)
    (he : starEach (e :: es) X.env = (false, eval e X.env) :: starEach es X.env) (hpl : (backTo pos (starEach es X.env)).any (·.1) = false) : PE X (.Call (.Name x p) (e :: es) [] pos) (xO X W F0 H0 O (cN g fs)) :=
  PE.of (pe_callTy hc hg hm hv ha hn hdb he hpl) (opN o)
theorem BrL.one {K : PySem.W.Frag} {F H : Hp} {vs : List V} {d : D} (h : BrL K F H vs [d]) : ∃ v, vs = [v] ∧ Br K F H v d := by
  cases h with
  | cons h1 h2 => cases h2; exact ⟨_, rfl, h1⟩
theorem BrL.two {K : PySem.W.Frag} {F H : Hp} {vs : List V} {d e : D} (h : BrL K F H vs [d, e]) : ∃ v u, vs = [v, u] ∧ Br K F H v d ∧ Br K F H u e := by
  cases h with
  | cons h1 h2 => cases h2 with
    | cons h3 h4 => cases h4; exact ⟨_, _, rfl, h1, h3⟩

def lenG : List D → Option D
  | [.str z] => if z.length ≤ line then some (.int z.length) else none
  | [.list xs] => some (.int xs.length)
  | [.tuple xs] => some (.int xs.length)
  | [.dict es] => some (.int es.length)
  | _ => none
def rLenX (K : PySem.W.Frag) : List V → Hp → VK → Prop := fun xs H Q => (∃ x n, xs = [x] ∧ LenV K x H n ∧ Q (.int n) H) ∨ (∃ a kvs, xs = [V.ref a] ∧ H a = some (.dK kvs) ∧ Q (.int kvs.length) H)
theorem call_lenX : CallR X (.builtin "len") (rLenX X.K) := call_len.or call_lenD
theorem DnK.length {K : PySem.W.Frag} {F : Hp} : ∀ {es : List (D × D)} {ks : List (Key × V)}, DnK K F ks es → ks.length = es.length
  | [], _, h => by cases h; rfl
  | _ :: _, _, h => by
    cases h with
    | cons h1 h2 => simp [DnK.length h2]
theorem lenG_ok : OpN X.K (rLenX X.K) lenG := by
  intro F H vs as c Q s bb e k
  unfold lenG at e
  split at e
  · split at e
    · rename_i hl
      cases e
      obtain ⟨v, rfl, b⟩ := bb.one
      cases b.str
      exact .inl ⟨_, _, rfl, ⟨by rw [line_eq]; exact hl, rfl⟩, k _ F H (Gr.refl s) (.int _)⟩
    · cases e
  · cases e
    obtain ⟨v, rfl, b⟩ := bb.one
    obtain ⟨p, xs, rfl, q, n⟩ := b.list s
    refine .inl ⟨_, _, rfl, .inl ⟨xs, q, rfl⟩, ?_⟩
    rw [n.length]
    exact k _ F H (Gr.refl s) (.int _)
  · cases e
    obtain ⟨v, rfl, b⟩ := bb.one
    obtain ⟨p, xs, rfl, q, n⟩ := b.tuple
    refine .inl ⟨_, _, rfl, .inr ⟨xs, seqT_same s q, rfl⟩, ?_⟩
    rw [n.length]
    exact k _ F H (Gr.refl s) (.int _)
  · cases e
    obtain ⟨v, rfl, b⟩ := bb.one
    obtain ⟨p, ks, rfl, q, n⟩ := b.dict s
    refine .inr ⟨p, ks, rfl, q, ?_⟩
    rw [n.length]
    exact k _ F H (Gr.refl s) (.int _)
  · cases e
/-- a list of truths, of whole numbers, of texts -/
def boolsOf : List D → Option (List Bool)
  | [] => some []
  | .bool b :: r => (boolsOf r).map (b :: ·)
  | _ => none
def intsOf : List D → Option (List Int)
  | [] => some []
  | .int b :: r => (intsOf r).map (b :: ·)
  | _ => none
def strsOf : List D → Option (List Str)
  | [] => some []
  | .str b :: r => (strsOf r).map (b :: ·)
  | _ => none
theorem bools_dn {K : PySem.W.Frag} {F : Hp} : ∀ {ds : List D} {vs : List V} {bs : List Bool}, DnL K F vs ds → boolsOf ds = some bs → vs = bs.map V.bl
  | [], _, _, h, e => by cases h; cases e; rfl
  | d :: ds, _, _, h, e => by
    cases h with
    | cons h1 h2 =>
      cases d with
      | bool b =>
        obtain ⟨bs, e1, rfl⟩ := Option.map_eq_some_iff.mp e
        cases h1
        rw [bools_dn h2 e1]; rfl
      | _ => cases e
theorem ints_dn {K : PySem.W.Frag} {F : Hp} : ∀ {ds : List D} {vs : List V} {bs : List Int}, DnL K F vs ds → intsOf ds = some bs → vs = bs.map V.int
  | [], _, _, h, e => by cases h; cases e; rfl
  | d :: ds, _, _, h, e => by
    cases h with
    | cons h1 h2 =>
      cases d with
      | int b =>
        obtain ⟨bs, e1, rfl⟩ := Option.map_eq_some_iff.mp e
        cases h1
        rw [ints_dn h2 e1]; rfl
      | _ => cases e
theorem strs_dn {K : PySem.W.Frag} {F : Hp} : ∀ {ds : List D} {vs : List V} {bs : List Str}, DnL K F vs ds → strsOf ds = some bs → vs = bs.map V.str
  | [], _, _, h, e => by cases h; cases e; rfl
  | d :: ds, _, _, h, e => by
    cases h with
    | cons h1 h2 =>
      cases d with
      | str b =>
        obtain ⟨bs, e1, rfl⟩ := Option.map_eq_some_iff.mp e
        cases h1
        rw [strs_dn h2 e1]; rfl
      | _ => cases e
theorem dn_strs {K : PySem.W.Frag} {F : Hp} : ∀ (ys : List Str), DnL K F (ys.map V.str) (ys.map PyData.str)
  | [] => .nil
  | y :: ys => .cons (.str y) (dn_strs ys)
theorem dn_ints {K : PySem.W.Frag} {F : Hp} : ∀ (ys : List Int), DnL K F (ys.map V.int) (ys.map PyData.int)
  | [] => .nil
  | y :: ys => .cons (.int y) (dn_ints ys)
def allG : List D → Option D
  | [.list xs] => (boolsOf xs).map fun bs => .bool (bs.all id)
  | _ => none
def anyG : List D → Option D
  | [.list xs] => (boolsOf xs).map fun bs => .bool (bs.any id)
  | _ => none
def sumG : List D → Option D
  | [.list xs] => (intsOf xs).map fun bs => .int bs.sum
  | _ => none
theorem allG_ok : OpN X.K (rAll X.K) allG := by
  intro F H vs as c Q s bb e k
  unfold allG at e
  split at e
  · obtain ⟨bs, e1, rfl⟩ := Option.map_eq_some_iff.mp e
    obtain ⟨v, rfl, b⟩ := bb.one
    obtain ⟨p, xs, rfl, q, n⟩ := b.list s
    cases bools_dn n e1
    exact ⟨p, bs, rfl, q, k _ F H (Gr.refl s) (.bl _)⟩
  · cases e
theorem anyG_ok : OpN X.K (rAny X.K) anyG := by
  intro F H vs as c Q s bb e k
  unfold anyG at e
  split at e
  · obtain ⟨bs, e1, rfl⟩ := Option.map_eq_some_iff.mp e
    obtain ⟨v, rfl, b⟩ := bb.one
    obtain ⟨p, xs, rfl, q, n⟩ := b.list s
    cases bools_dn n e1
    exact ⟨p, bs, rfl, q, k _ F H (Gr.refl s) (.bl _)⟩
  · cases e
theorem sumG_ok : OpN X.K (rSum X.K) sumG := by
  intro F H vs as c Q s bb e k
  unfold sumG at e
  split at e
  · obtain ⟨bs, e1, rfl⟩ := Option.map_eq_some_iff.mp e
    obtain ⟨v, rfl, b⟩ := bb.one
    obtain ⟨p, xs, rfl, q, n⟩ := b.list s
    cases ints_dn n e1
    exact ⟨p, bs, rfl, q, k _ F H (Gr.refl s) (.int _)⟩
  · cases e
def absG : List D → Option D
  | [.int i] => some (.int (if i < 0 then -i else i))
  | _ => none
theorem absG_ok : OpN X.K (fun xs H Q => ∃ i, xs = [.int i] ∧ Q (.int (if i < 0 then -i else i)) H) absG := by
  intro F H vs as c Q s bb e k
  unfold absG at e
  split at e
  · cases e
    obtain ⟨v, rfl, b⟩ := bb.one
    cases b.int
    exact ⟨_, rfl, k _ F H (Gr.refl s) (.int _)⟩
  · cases e
def max2G : List D → Option D
  | [.int i, .int j] => some (.int (if j > i then j else i))
  | _ => none
def min2G : List D → Option D
  | [.int i, .int j] => some (.int (if j < i then j else i))
  | _ => none
theorem max2G_ok : OpN X.K (fun xs H Q => ∃ i j, xs = [.int i, .int j] ∧ Q (.int (if j > i then j else i)) H) max2G := by
  intro F H vs as c Q s bb e k
  unfold max2G at e
  split at e
  · cases e
    obtain ⟨v, u, rfl, b1, b2⟩ := bb.two
    cases b1.int; cases b2.int
    exact ⟨_, _, rfl, k _ F H (Gr.refl s) (.int _)⟩
  · cases e
theorem min2G_ok : OpN X.K (fun xs H Q => ∃ i j, xs = [.int i, .int j] ∧ Q (.int (if j < i then j else i)) H) min2G := by
  intro F H vs as c Q s bb e k
  unfold min2G at e
  split at e
  · cases e
    obtain ⟨v, u, rfl, b1, b2⟩ := bb.two
    cases b1.int; cases b2.int
    exact ⟨_, _, rfl, k _ F H (Gr.refl s) (.int _)⟩
  · cases e
def intG : List D → Option D
  | [.int i] => some (.int i)
  | [.bool b] => some (.int (if b then 1 else 0))
  | [.str a] => if a.length ≤ 640 then (PySem.intText? a).map .int else none
  | _ => none
def rIntX : List V → Hp → VK → Prop := fun xs H Q => ((∃ i, xs = [.int i] ∧ Q (.int i) H) ∨ ∃ k, xs = [.bl k] ∧ Q (.int (if k then 1 else 0)) H) ∨ (∃ a n, xs = [.str a] ∧ PySem.intText? a = some n ∧ a.length ≤ 640 ∧ Q (.int n) H)
theorem call_intX : CallR X (.type "int") rIntX := call_int1.or call_int_str
theorem intG_ok : OpN X.K rIntX intG := by
  intro F H vs as c Q s bb e k
  unfold intG at e
  split at e
  · cases e
    obtain ⟨v, rfl, b⟩ := bb.one
    cases b.int
    exact .inl (.inl ⟨_, rfl, k _ F H (Gr.refl s) (.int _)⟩)
  · cases e
    obtain ⟨v, rfl, b⟩ := bb.one
    cases b.bool
    exact .inl (.inr ⟨_, rfl, k _ F H (Gr.refl s) (.int _)⟩)
  · split at e
    · rename_i hl
      obtain ⟨n, e1, rfl⟩ := Option.map_eq_some_iff.mp e
      obtain ⟨v, rfl, b⟩ := bb.one
      cases b.str
      exact .inr ⟨_, n, rfl, e1, hl, k _ F H (Gr.refl s) (.int _)⟩
    · cases e
  · cases e
def tupG : List D → Option D
  | [.list xs] => some (.tuple xs)
  | [.tuple xs] => some (.tuple xs)
  | _ => none
theorem tupG_ok : OpN X.K (fun xs H Q => ∃ p ys, xs = [.ref p] ∧ ((SqL X.K H p ys ∧ ∀ l, H l = none → Q (.ref l) (upd H l (.tup ys))) ∨ (SqT X.K H p ys ∧ Q (.ref p) H))) tupG := by
  intro F H vs as c Q s bb e k
  unfold tupG at e
  split at e
  · cases e
    obtain ⟨v, rfl, b⟩ := bb.one
    obtain ⟨p, xs, rfl, q, n⟩ := b.list s
    refine ⟨p, xs, rfl, .inl ⟨q, fun r hr => ?_⟩⟩
    have g := Gr.new (o := .tup xs) s hr
    exact k _ _ _ g (.tup (SqT.of upd_same) (n.mono g.ff))
  · cases e
    obtain ⟨v, rfl, b⟩ := bb.one
    obtain ⟨p, xs, rfl, q, n⟩ := b.tuple
    exact ⟨p, xs, rfl, .inr ⟨seqT_same s q, k _ F H (Gr.refl s) (.tup q n)⟩⟩
  · cases e
def lstG : List D → Option D
  | [.list xs] => some (.list xs)
  | [.tuple xs] => some (.list xs)
  | _ => none
theorem lstG_ok : OpN X.K (fun xs H Q => ∃ p ys, xs = [.ref p] ∧ (SqL X.K H p ys ∨ SqT X.K H p ys) ∧ ∀ l, H l = none → Q (.ref l) (upd H l (.lst ys))) lstG := by
  intro F H vs as c Q s bb e k
  unfold lstG at e
  split at e
  · cases e
    obtain ⟨v, rfl, b⟩ := bb.one
    obtain ⟨p, xs, rfl, q, n⟩ := b.list s
    exact ⟨p, xs, rfl, .inl q, fun r hr => k _ F _ (Gr.out s hr) ⟨r, _, rfl, hr, noneOf s hr, upd_same, n⟩⟩
  · cases e
    obtain ⟨v, rfl, b⟩ := bb.one
    obtain ⟨p, xs, rfl, q, n⟩ := b.tuple
    exact ⟨p, xs, rfl, .inr (seqT_same s q), fun r hr => k _ F _ (Gr.out s hr) ⟨r, _, rfl, hr, noneOf s hr, upd_same, n⟩⟩
  · cases e
def strG : List D → Option D
  | [.int i] => if i.natAbs.log2 < 1920 then some (.str (toString i)) else none
  | _ => none
theorem strG_ok : OpN X.K (fun xs H Q => ∃ i, xs = [.int i] ∧ i.natAbs.log2 < 1920 ∧ Q (.str (toString i)) H) strG := by
  intro F H vs as c Q s bb e k
  unfold strG at e
  split at e
  · split at e
    · rename_i hl
      cases e
      obtain ⟨v, rfl, b⟩ := bb.one
      cases b.int
      exact ⟨_, rfl, hl, k _ F H (Gr.refl s) (.str _)⟩
    · cases e
  · cases e
/-! ### isinstance -/
def tyN : D → String
  | .none => "NoneType"
  | .bool _ => "bool"
  | .int _ => "int"
  | .str _ => "str"
  | .list _ => "list"
  | .tuple _ => "tuple"
  | .dict _ => "dict"
def isiB (d : D) (T : String) : Bool := tyN d == T || (T == "int" && tyN d == "bool")
def tyOk (T : String) : Bool := T == "str" || T == "int" || T == "bool" || T == "tuple" || T == "list" || T == "dict"
theorem kitB_is (d : D) (T : String) (h : tyOk T = true) : kitB (tyN d) T = some (isiB d T) := by
  have h' : T = "str" ∨ T = "int" ∨ T = "bool" ∨ T = "tuple" ∨ T = "list" ∨ T = "dict" := by
    simp only [tyOk, Bool.or_eq_true, beq_iff_eq] at h
    rcases h with ((((h | h) | h) | h) | h) | h
    all_goals simp [h]
  rcases h' with rfl | rfl | rfl | rfl | rfl | rfl <;> cases d <;> (show kitB _ _ = some (_ : Bool)) <;> simp only [tyN, isiB] <;> decide +kernel
theorem tyX_of {K : PySem.W.Frag} {F H : Hp} {v : V} {d : D} (s : Same F H) (b : Br K F H v d) : TyX K H v (.type (tyN d)) := by
  cases d with
  | none => cases b.none; exact .base .non
  | bool x => cases b.bool; exact .base (.bl x)
  | int x => cases b.int; exact .base (.int x)
  | str x => cases b.str; exact .base (.str x)
  | list xs =>
    obtain ⟨a, ys, rfl, q, n⟩ := b.list s
    rcases q with (q | ⟨o, q⟩) | ⟨o, its, n, h1, h2, _⟩
    · exact .base (.lst q)
    · exact .base (.frz q)
    · exact .kList h1 h2
  | tuple xs =>
    obtain ⟨a, ys, rfl, q, n⟩ := b.tuple
    rcases seqT_same s q with (q | ⟨o, q⟩) | ⟨o, its, n, h1, h2, _⟩
    · exact .base (.tup q)
    · exact .fTuple q
    · exact .kTuple h1 h2
  | dict es =>
    obtain ⟨a, ks, rfl, q, n⟩ := b.dict s
    exact .base (.dK q)
def cIsi (f : Env → Res D) (T : String) : Env → Res D := c1 (fun d => some (.bool (isiB d T))) f
theorem pe_isiE {T : String} {tn : Str} {p1 p2 : Pos} (hT : tyOk T = true) (hb : bootBuiltins tn = some (.type T)) (hg : Gl X "isinstance") (hm : X.mg "isinstance" = none) (hg2 : Gl X tn) (hm2 : X.mg tn = none) (hn2 : tn ≠ "__name__") (hd2 : (tn == ("__debug__" : Str)) = false)
    (ha : PE X a (xR X W F0 H0 O fa)) (he : starEach [a, .Name tn p2] X.env = (false, eval a X.env) :: starEach [.Name tn p2] X.env) :
    PE X (.Call (.Name "isinstance" p1) [a, .Name tn p2] [] pos) (xE X W F0 H0 O (cIsi fa T)) :=
  PE.of (pe_callB call_isi hg hm PyProof.Rows.boot_isinstance (pa_cons ha (pa_cons (pe_bltn (v := .ty T) hg2 hm2 hb rfl hn2 hd2) pa_nil) he) (by decide) (by decide) he rfl) fun σ H Q ⟨ρ, F, rel, q⟩ => by
    refine ⟨ρ, F, rel, (RQ.seq q).imp fun d _ q1 v F1 H1 g b => ?_⟩
    exact ⟨v, .ty T, .type (tyN d), .type T, isiB d T, rfl, .ty T, tyX_of g.fh b, kit_ty (kitB_is d T hT), q1 _ F1 H1 g (.bl _)⟩
end
end Ev

set_option Elab.async false
set_option linter.all false
set_option maxRecDepth 100000
set_option maxHeartbeats 4000000
/-! The evaluator, part E2: turned about, large letters, {}. -/
namespace HT
open PySem PySem.Spec PyProof.Rows
section
variable {prog : Program} {w : World} {A : Around} {E : Value → Shared → Prop} {s : Shared}
theorem adjust_rev (n : Nat) : Builtin.Slice.sliceAdjust none none (-1) (n : Int) = ((n : Int) - 1, -1) := by
  unfold Builtin.Slice.sliceAdjust
  simp
theorem places_rev (n : Nat) : Builtin.Slice.slicePlaces ((n : Int) - 1) (-1) (-1) = n := by
  unfold Builtin.Slice.slicePlaces
  have h1 : ¬ ((-1 : Int) > 0) := by omega
  simp only [h1, if_false]
  have h2 : (- -1 : Int) = 1 := by decide
  rw [h2, Int.ediv_one]
  split <;> omega
theorem sliceApplied_rev {sl : Addr} {vs : Value} {n : Nat} {Q : Int × Int × Nat → Shared → Prop} (hs : s.heap.IsSliceOf sl .none .none vs) (ps : IsPart vs (some (-1)))
    (h : Q ((n : Int) - 1, -1, n) s) : wpAny (model prog w) A (Builtin.Slice.sliceApplied (.ref sl) (pure (n : Int))) Q E s := by
  obtain ⟨os, hos, hcs, hds⟩ := id hs
  unfold Builtin.Slice.sliceApplied Builtin.Slice.sliceFields
  refine wpAny_bind (wpAny_bind (wpAny_field hos hds (x := .none) rfl (wpAny_bind (wpAny_field hos hds (x := .none) rfl (wpAny_bind (wpAny_field hos hds (x := vs) rfl (wpAny_pure ?_)))))))
  refine wpAny_bind (slicePart_ ps ?_)
  show wpAny _ _ (if ((-1 : Int) == 0) = true then _ else _) _ _ s
  rw [if_neg (by decide)]
  refine wpAny_bind (slicePart_ .none (wpAny_bind (slicePart_ .none (wpAny_bind (wpAny_pure ?_)))))
  show wpAny _ _ (match Builtin.Slice.sliceAdjust none none (-1) (n : Int) with | (lo, hi) => pure (lo, (-1 : Int), Builtin.Slice.slicePlaces lo hi (-1))) _ _ s
  rw [adjust_rev n]
  show wpAny _ _ (pure ((n : Int) - 1, (-1 : Int), Builtin.Slice.slicePlaces ((n : Int) - 1) (-1) (-1))) _ _ s
  rw [places_rev]
  exact wpAny_pure h
theorem pick_rev (xs : Array Value) : ((List.range xs.size).filterMap fun (m : Nat) => xs[(((xs.size : Nat) : Int) - 1 + (m : Int) * -1).toNat]?).toArray = xs.toList.reverse.toArray := by
  have e : (List.range xs.size).map (fun (m : Nat) => (((xs.size : Nat) : Int) - 1 + (m : Int) * -1).toNat) = (List.range xs.size).reverse := by
    rw [← PySem.W.krv_range]
    apply List.map_congr_left
    intro k hk
    have := List.mem_range.mp hk
    omega
  have e2 : ((List.range xs.size).filterMap fun (m : Nat) => xs[(((xs.size : Nat) : Int) - 1 + (m : Int) * -1).toNat]?) = ((List.range xs.size).map (fun (m : Nat) => (((xs.size : Nat) : Int) - 1 + (m : Int) * -1).toNat)).filterMap (xs[·]?) := by
    rw [List.filterMap_map]; rfl
  rw [e2, e, List.filterMap_reverse, PySem.W.krv_all]
theorem getItem_tuple_rev {t sl : Addr} {items : Array Value} {vs : Value} {Q : Value → Shared → Prop} (ht : IsTup s.heap t items) (hs : s.heap.IsSliceOf sl .none .none vs) (ps : IsPart vs (some (-1)))
    (h : Q (.ref s.heap.objs.size) { s with heap := s.heap.push { cls := .type "tuple", data := .seq items.toList.reverse.toArray } })
    (hsz : items.size ≤ sizeLine) : wpAny (model prog w) A (getItem (.ref t) (.ref sl)) Q E s := by
  have htake : sizeOk (.seq items.toList.reverse.toArray) := by
    show items.toList.reverse.toArray.size ≤ sizeLine
    rw [List.size_toArray, List.length_reverse, Array.length_toList]
    exact hsz
  obtain ⟨os, hos, hcs, hds⟩ := id hs
  have hTs : s.TypeIs (.ref sl) "slice" := ⟨os, hos, hcs⟩
  unfold getItem
  try with_reducible refine wpAny_holding ?_
  first | refine wpAny_bind (wpAny_pure ?_) | skip
  refine wpAny_bind (wpAny_sequenceKey ht.typeIs (by decide) ?_)
  refine wpAny_bind (wpAny_callSpecial?_slot (name := Str.ofString "__getitem__") ht.typeIs PyProof.Rows.slot_tuple_getitem
    (wpAny_call_entry PyProof.Rows.slot_tuple_getitem ht.typeIs entry_tuple_getitem ?_ (args_tuple_getitem _ _)))
  show wpAny _ _ (Builtin.Tuple.tupleItemsOf (.ref t) >>= _) _ _ s
  refine wpAny_bind (tupleItemsOf_ ht ?_)
  refine wpAny_bind (wpAny_typeOf hTs ?_)
  rw [if_pos (by decide)]
  refine wpAny_bind (sliceApplied_rev hs ps ?_)
  have hno : ¬ ((((items.size : Nat) : Int) - 1 == 0 && (-1 : Int) == 1 && items.size == items.size) = true) := by
    intro q
    rw [Bool.and_eq_true, Bool.and_eq_true] at q
    have q1 : (-1 : Int) = 1 := eq_of_beq q.1.2
    omega
  show wpAny _ _ (if (((items.size : Nat) : Int) - 1 == 0 && (-1 : Int) == 1 && items.size == items.size) = true then _ else _) _ _ s
  rw [if_neg hno, pick_rev]
  first
    | exact wpAny_bind (m := Builtin.Tuple.tupleExact _) (wpAny_newObj_type (wpAny_pure ⟨_, rfl, wpAny_pure h⟩) htake)
    | exact wpAny_bind (m := Builtin.Tuple.tupleExact _) (wpAny_newObj_type (wpAny_bind (wpAny_pure (wpAny_pure ⟨_, rfl, wpAny_pure h⟩))) htake)
    | exact wpAny_bind (wpAny_bind (m := Builtin.Tuple.tupleExact _) (wpAny_newObj_type (wpAny_pure (wpAny_pure ⟨_, rfl, wpAny_pure h⟩)) htake))
    | exact wpAny_bind (wpAny_bind (m := Builtin.Tuple.tupleExact _) (wpAny_newObj_type (wpAny_pure ⟨_, rfl, wpAny_pure h⟩) htake))
end
end HT
namespace Ev
open PySem L2 PySem.Spec PyProof.Rows
section
variable {X : Cx} {W : WX} {F0 H0 : Hp} {O : List Nat}
def tRevX (K : PySem.W.Frag) (te : TE) : TE := fun σ H Q => te σ H fun x H1 => (∃ a xs, x = .ref a ∧ SqL K H1 a xs ∧ ∀ p, H1 p = none → Q (.ref p) (upd H1 p (.lst xs.reverse))) ∨
  (∃ a xs, x = .ref a ∧ SqT K H1 a xs ∧ ∀ p, H1 p = none → Q (.ref p) (upd H1 p (.tup xs.reverse)))
theorem pe_revX {e : Expr} {te : TE} {k : Nat} {p1 p2 p3 pos : Pos} (he : PE X e te) : PE X (.Subscript e (.Slice none none (some (.UnaryOp .USub (.Constant (.int 1) k p1) p2)) p3) pos) (tRevX X.K te) := by
  refine ⟨fun pins s σ H Q I h => ?_⟩
  refine Subscript_ (thn (he.run pins s σ H _ I h) fun v s1 ⟨x, H1, I1, r1, q1⟩ => ?_)
  have hst : PO X (some (.UnaryOp .USub (.Constant (.int 1) k p1) p2)) (tPart (tUn (rU fun i => .int (-i)) (tC (.int 1)))) := po_some (pe_un un_neg pe_int)
  refine wpAny_Slice (thn (po_none.run pins s1 σ H1 (fun o H2 => o = none ∧ H2 = H1) I1 ⟨rfl, rfl⟩) fun vl s2 ⟨l, H2, I2, pl, el, e2⟩ => ?_)
  subst el e2
  refine thn (po_none.run pins s2 σ H2 (fun o H3 => o = none ∧ H3 = H2) I2 ⟨rfl, rfl⟩) fun vu s3 ⟨u, H3, I3, pu, eu, e3⟩ => ?_
  subst eu e3
  refine thn (hst.run pins s3 σ H3 (fun o H4 => o = some (-1) ∧ H4 = H3) I3 ⟨1, rfl, -1, rfl, rfl, rfl⟩) fun vs s4 ⟨o, H4, I4, ps, eo, e4⟩ => ?_
  subst eo e4
  have I5 : Inv X pins σ H4 { s4 with heap := s4.heap.push { cls := .type "slice", data := .fields #[vl, vu, vs] } } := I4.kept (t' := s4.toks) fun b ob q => Heap.get?_push_of_some _ q
  rcases q1 with ⟨a, xs, rfl, hx, q⟩ | ⟨a, xs, rfl, hx, q⟩
  · cases r1
    obtain ⟨its, r, ht, hz⟩ := I5.list hx
    have hlen := r.length
    show wpAny (model X.prog X.w) X.A (subscriptTail e (.Slice none none (some (.UnaryOp .USub (.Constant (.int 1) k p1) p2)) p3) (.ref a) (.ref s4.heap.objs.size)) (EP X pins σ Q) X.xe { s4 with heap := s4.heap.push { cls := .type "slice", data := .fields #[vl, vu, vs] } }
    refine tail_any (ops := [.ref a, .ref s4.heap.objs.size]) ht.isList.typeIs (PySem.slot_list_getitem.lookup) ?_ (by with_unfolding_all rfl)
    refine wpAny_getItem_list_slice ht.isList (Heap.IsSliceOf.new _ vl vu vs) pl pu ps (by decide) ?_ (by rw [List.size_toArray]; omega)
    rw [PySem.W.krv_pick]
    refine ⟨.ref _, _, I5.laid (t' := s4.toks) (o := .lst xs.reverse) (fun b ob q => Heap.get?_push_of_some _ q) (Nat.le_refl _) ?_, rfl, q _ (I5.hok.fresh (Nat.le_refl _))⟩
    exact ⟨by rw [List.length_reverse]; exact hz, _, 0, r.reverse, Heap.get?_push_size _ rfl⟩
  · cases r1
    obtain ⟨its, r, ht, hz⟩ := I5.tuple hx
    have hlen := r.length
    cases pl
    cases pu
    show wpAny (model X.prog X.w) X.A (subscriptTail e (.Slice none none (some (.UnaryOp .USub (.Constant (.int 1) k p1) p2)) p3) (.ref a) (.ref s4.heap.objs.size)) (EP X pins σ Q) X.xe { s4 with heap := s4.heap.push { cls := .type "slice", data := .fields #[.none, .none, vs] } }
    refine tail_any (ops := [.ref a, .ref s4.heap.objs.size]) ht.typeIs (PyProof.Rows.slot_tuple_getitem.lookup) ?_ (by with_unfolding_all rfl)
    refine HT.getItem_tuple_rev ht (Heap.IsSliceOf.new _ .none .none vs) ps ?_ (by rw [List.size_toArray]; omega)
    refine ⟨.ref _, _, I5.laid (t' := s4.toks) (o := .tup xs.reverse) (fun b ob q => Heap.get?_push_of_some _ q) (Nat.le_refl _) ?_, rfl, q _ (I5.hok.fresh (Nat.le_refl _))⟩
    exact ⟨by rw [List.length_reverse]; exact hz, _, r.reverse, by first | exact IsTup.new _ _ | (have := IsTup.new ({ s4 with heap := s4.heap.push { cls := .type "slice", data := .fields #[.none, .none, vs] } }).heap its.reverse.toArray; simpa using this)⟩
def revD : D → Option D
  | .list xs => some (.list xs.reverse)
  | .tuple xs => some (.tuple xs.reverse)
  | _ => none
theorem pe_revO {e : Expr} {f : Env → Res D} {k : Nat} {p1 p2 p3 pos : Pos} (he : PE X e (xR X W F0 H0 O f)) : PE X (.Subscript e (.Slice none none (some (.UnaryOp .USub (.Constant (.int 1) k p1) p2)) p3) pos) (xO X W F0 H0 O (c1 revD f)) :=
  PE.of (pe_revX he) fun σ H Q ⟨ρ, F, rel, q⟩ => by
    refine ⟨ρ, F, rel, (RQ.seq q).imp fun d _ q1 v F1 H1 g b => ?_⟩
    cases e : revD d with
    | none => rw [e] at q1; exact False.elim q1
    | some c =>
      rw [e] at q1
      unfold revD at e
      split at e
      · rename_i xs
        cases e
        obtain ⟨a, us, rfl, h1, h2⟩ := b.list g.fh
        refine .inl ⟨a, us, rfl, h1, fun p hp => ?_⟩
        have g2 := Gr.out (o := .lst us.reverse) g.fh hp
        refine q1 _ _ _ (g.trans g2) ⟨p, _, rfl, g.hh.free hp, ?_, upd_same, h2.reverse⟩
        cases z : F1 p with
        | none => rfl
        | some o => have := g.fh p o z; rw [hp] at this; cases this
      · rename_i xs
        cases e
        obtain ⟨a, us, rfl, h1, h2⟩ := b.tuple
        refine .inr ⟨a, us, rfl, seqT_same g.fh h1, fun p hp => ?_⟩
        have g2 := Gr.new (o := .tup us.reverse) g.fh hp
        exact q1 _ _ _ (g.trans g2) (.tup (SqT.of upd_same) (h2.reverse.mono g2.ff))
      · cases e
/-! ### {} -/
theorem pe_dictO {pos : Pos} : PE X (.Dict [] [] pos) (xO X W F0 H0 O (cLit (.dict []))) := PE.of pe_dnewK fun σ H Q ⟨ρ, F, rel, q⟩ p hp => by
  have g2 := Gr.out (o := .dK []) rel.sfh hp
  refine q _ _ _ g2 ⟨p, [], rfl, hp, ?_, upd_same, .nil⟩
  cases z : F p with
  | none => rfl
  | some o => have := rel.sfh p o z; rw [hp] at this; cases this
end
end Ev

set_option Elab.async false
set_option linter.all false
set_option maxRecDepth 100000
set_option maxHeartbeats 4000000
/-! The evaluator, part E3: methods of texts. -/
namespace Ev
open PySem L2
section
variable {X : Cx} {W : WX} {F0 H0 : Hp} {O : List Nat}
/-- a base that is no call -/
def notCall : Expr → Bool
  | .Call _ _ _ _ => false
  | _ => true
theorem attr_nc {o : Expr} (h : notCall o = true) (m : Str) (env : PySem.Env) (w : Sem Value) : attributeBase o m env w = w := by
  cases o <;> first | rfl | (cases h; done)
theorem mt_upper : MtR X "str.upper" (fun x xs H Q => ∃ a, x = .str a ∧ xs = [] ∧ a.length ≤ 5592405 ∧ Q (.str (Txt.upper a)) H) :=
  mt0 (C := fun a => a.length ≤ 5592405) (g := fun a => .str (Txt.upper a)) fun a _ _ _ hc h => PySem.SC.upper (PyProof.Rows.short24 (by have := PyProof.Rows.len_upper a; omega)) (h _ _ ⟨_, rfl⟩)
/-- a method of a text, of no arguments, read off -/
def Mt0 (K : PySem.W.Frag) (r : V → List V → Hp → VK → Prop) (g : D → Option D) : Prop := ∀ (F H : Hp) (x : V) (a c : D) (Q : VK), Same F H → Br K F H x a → g a = some c → (∀ v F' H', Gr F H F' H' → Owv K H F' H' v c → Q v H') → (∃ z, x = .str z) ∧ r x [] H Q
theorem pe_m0O {o : Expr} {f : Env → Res D} {id : String} {name : Str} {apos pos : Pos} {r : V → List V → Hp → VK → Prop} {g : D → Option D} (slot : Slot "str" name id) (ty : typeOf (.builtin id) = pure (.type "method_descriptor")) (rule : MtR X id r) (m : Mt0 X.K r g)
    (ho : PE X o (xR X W F0 H0 O f)) (hb : notCall o = true) (hl : (apos.endLine == pos.line) = true) : PE X (.Call (.Attribute o name apos) [] [] pos) (xO X W F0 H0 O (c1 g f)) :=
  PE.of (pe_m0 slot ty rule ho (attr_nc hb _ _ _) hl) fun σ H Q ⟨ρ, F, rel, q⟩ => by
    refine ⟨ρ, F, rel, (RQ.seq q).imp fun d _ q1 v F1 H1 g1 b => ?_⟩
    cases e : g d with
    | none => rw [e] at q1; exact False.elim q1
    | some c =>
      rw [e] at q1
      exact m F1 H1 v d c Q g1.fh b e fun v F' H' g' w => q1 v F' H' (g1.trans g') (w.z fun p z => g1.hh.free z)
def upperD : D → Option D
  | .str z => if z.length ≤ 5592405 then some (.str (Txt.upper z)) else none
  | _ => none
theorem upperD_ok {K : PySem.W.Frag} : Mt0 K (fun x xs H Q => ∃ a, x = .str a ∧ xs = [] ∧ a.length ≤ 5592405 ∧ Q (.str (Txt.upper a)) H) upperD := by
  intro F H x a c Q s b e k
  unfold upperD at e
  split at e
  · split at e
    · rename_i z hz
      cases e
      cases b.str
      exact ⟨⟨_, rfl⟩, _, rfl, rfl, hz, k _ F H (Gr.refl s) (.str _)⟩
    · cases e
  · cases e
end
end Ev

set_option Elab.async false
set_option linter.all false
set_option maxRecDepth 100000
set_option maxHeartbeats 4000000
/-! The evaluator, part F: targets, what is walked, list comprehensions. -/
namespace Ev
open PySem L2

/-! ### targets -/
def setAll {α : Type} (ρ : List (Option α)) : List Nat → List α → List (Option α)
  | i :: is, d :: ds => setAll (ρ.set i (some d)) is ds
  | _, _ => ρ
/-- what a target does with an item -/
def cTg (tup : Bool) (is : List Nat) (d : D) (ρ : Env) : Res Env := match tup with
  | false => .ok (setAll ρ is [d])
  | true => match d with
    | .tuple ds => if ds.length = is.length then .ok (setAll ρ is ds) else .bad
    | _ => .bad
def wipeE (ρ : Env) : List Nat → Env
  | [] => ρ
  | v :: vs => (wipeE ρ vs).set v none
section
variable {K : PySem.W.Frag} {F0 H0 F H : Hp} {O : List Nat} {ρ : Env} {σ : St}
theorem Rel.set (r : Rel K F0 H0 O ρ σ F H) {i : Nat} {d : D} {v : V} (hi : i ∉ O) (n : Dn K F v d) : Rel K F0 H0 O (ρ.set i (some d)) (σ.set i (some v)) F H := by
  refine ⟨by simp [r.len], r.sfh, r.s0, r.sf0, r.nw, fun j e h1 h2 => ?_, fun j e h1 h2 => ?_, fun j k d' e' a h1 h2 h3 h4 h5 h6 h7 h8 h9 => ?_⟩
  · by_cases hj : i = j
    · subst hj
      have hl : i < ρ.length := by
        obtain ⟨q, _⟩ := List.getElem?_eq_some_iff.mp h2
        simpa using q
      rw [List.getElem?_set_self hl] at h2
      cases h2
      exact ⟨v, List.getElem?_set_self (by rw [← r.len]; exact hl), n⟩
    · rw [List.getElem?_set_ne hj] at h2 ⊢
      exact r.fz j e h1 h2
  · have hj : i ≠ j := fun z => hi (z ▸ h1)
    rw [List.getElem?_set_ne hj] at h2 ⊢
    exact r.ow j e h1 h2
  · have hj : i ≠ j := fun z => hi (z ▸ h1)
    have hk : i ≠ k := fun z => hi (z ▸ h2)
    rw [List.getElem?_set_ne hj] at h4 h8
    rw [List.getElem?_set_ne hk] at h5 h9
    exact r.ap j k d' e' a h1 h2 h3 h4 h5 h6 h7 h8 h9
theorem Rel.clear (r : Rel K F0 H0 O ρ σ F H) (i : Nat) : Rel K F0 H0 O (ρ.set i none) (σ.set i none) F H := by
  have gone : ∀ {j : Nat} {e : D}, (ρ.set i none)[j]? = some (some e) → i ≠ j ∧ ρ[j]? = some (some e) := fun {j e} h => by
    by_cases hj : i = j
    · subst hj
      by_cases hl : i < ρ.length
      · rw [List.getElem?_set_self hl] at h; cases h
      · rw [List.getElem?_eq_none (by simpa using hl)] at h; cases h
    · rw [List.getElem?_set_ne hj] at h; exact ⟨hj, h⟩
  refine ⟨by simp [r.len], r.sfh, r.s0, r.sf0, r.nw, fun j e h1 h2 => ?_, fun j e h1 h2 => ?_, fun j k d' e' a h1 h2 h3 h4 h5 h6 h7 h8 h9 => ?_⟩
  · obtain ⟨hj, h2⟩ := gone h2
    rw [List.getElem?_set_ne hj]; exact r.fz j e h1 h2
  · obtain ⟨hj, h2⟩ := gone h2
    rw [List.getElem?_set_ne hj]; exact r.ow j e h1 h2
  · obtain ⟨hj, h4⟩ := gone h4
    obtain ⟨hk, h5⟩ := gone h5
    rw [List.getElem?_set_ne hj] at h8
    rw [List.getElem?_set_ne hk] at h9
    exact r.ap j k d' e' a h1 h2 h3 h4 h5 h6 h7 h8 h9
theorem Rel.wipe (r : Rel K F0 H0 O ρ σ F H) : ∀ vs : List Nat, Rel K F0 H0 O (wipeE ρ vs) (L2.wipe σ vs) F H
  | [] => r
  | v :: vs => (Rel.wipe r vs).clear v
theorem Rel.setAll : ∀ {is : List Nat} {ds : List D} {vs : List V} {ρ : Env} {σ : St}, Rel K F0 H0 O ρ σ F H → (∀ i ∈ is, i ∉ O) → DnL K F vs ds → Rel K F0 H0 O (Ev.setAll ρ is ds) (Ev.setAll σ is vs) F H
  | [], [], _, _, _, r, _, h => by cases h; exact r
  | [], _ :: _, _, _, _, r, _, h => by cases h; exact r
  | _ :: _, [], _, _, _, r, _, h => by cases h; exact r
  | i :: is, d :: ds, _, ρ, σ, r, hi, h => by
    cases h with
    | cons h1 h2 =>
      have t := Rel.setAll (is := is) (ds := ds) (r.set (hi i (by simp)) h1) (fun j hj => hi j (by simp [hj])) h2
      exact t
end
section
variable {X : Cx} {pos : Pos}
/-- names in a row -/
def gNames (is : List Nat) : TGs := fun vs σ H Q => vs.length = is.length ∧ Q (setAll σ is vs) H
theorem pgs_names : ∀ {es : List Expr} {is : List Nat} (h : Paired (fun (e : Expr) (i : Nat) => PG X e (gName i) ∧ ∀ r : List Expr, (assignEach (e :: r) X.env).map (·.2) = assign e X.env :: (assignEach r X.env).map (·.2)) es is), PGs X es (gNames is)
  | [], _, h => by
    cases h
    exact ⟨fun pins s σ H vs us Q I r ⟨hl, q⟩ => by
      have e : vs = [] := List.length_eq_zero_iff.mp hl
      subst e
      exact pgs_nil.run pins s σ H [] us Q I r ⟨rfl, q⟩⟩
  | e :: es, _, h => by
    cases h with
    | @cons _ i _ is h1 h2 =>
      have ih := pgs_names h2
      refine ⟨fun pins s σ H vs us Q I r ⟨hl, q⟩ => ?_⟩
      cases vs with
      | nil => cases hl
      | cons v vs =>
        exact (pgs_cons h1.1 ih (h1.2 es)).run pins s σ H (v :: vs) us Q I r ⟨v, vs, rfl, by simpa using hl, q⟩
/-- a target's reading: whatever it stores, the relation stands behind it -/
def xG (X : Cx) (F0 H0 : Hp) (O : List Nat) (tup : Bool) (is : List Nat) : TG := fun v σ H Q => ∃ ρ F d ρ', Rel X.K F0 H0 O ρ σ F H ∧ Dn X.K F v d ∧ cTg tup is d ρ = .ok ρ' ∧ ∀ σ', (∃ vs, σ' = setAll σ is vs) → Rel X.K F0 H0 O ρ' σ' F H → Q σ' H
theorem PG.of {e : Expr} {t t' : TG} (h : PG X e t) (i : ∀ v σ H Q, t' v σ H Q → t v σ H Q) : PG X e t' := ⟨fun pins s σ H v u Q I r q => h.run pins s σ H v u Q I r (i v σ H Q q)⟩
theorem pg_nameX {F0 H0 : Hp} {O : List Nat} {e : Expr} {i : Nat} (h : PG X e (gName i)) (hi : i ∉ O) : PG X e (xG X F0 H0 O false [i]) :=
  PG.of h fun v σ H Q ⟨ρ, F, d, ρ', r, n, e, q⟩ => by
    cases e
    exact q _ ⟨[v], rfl⟩ (r.set hi n)
theorem pg_tupX {F0 H0 : Hp} {O : List Nat} {es : List Expr} {k : Nat} {is : List Nat} (hc : X.calm = true) (h : PGs X es (gNames is)) (hi : ∀ i ∈ is, i ∉ O) (hn : (assignEach es X.env).length = is.length) (hst : (assignEach es X.env).findIdx? (·.1) = none) :
    PG X (.Tuple es k pos) (xG X F0 H0 O true is) :=
  PG.of (pg_tup hc h hn hst) fun v σ H Q ⟨ρ, F, d, ρ', r, n, e, q⟩ => by
    unfold cTg at e
    split at e
    · cases ‹true = false›
    · split at e
      · rename_i ds
        split at e
        · rename_i hl
          cases e
          cases n with
          | @tup a xs _ hq hn =>
            exact ⟨a, xs, rfl, seqT_same r.sfh hq, by rw [hn.length]; exact hl, by rw [hn.length]; exact hl, q _ ⟨xs, rfl⟩ (r.setAll hi hn)⟩
        · cases e
      · cases e
end

/-! ### what is walked -/
def signs (z : Str) : List D := z.cps.toList.map fun c => .str ⟨#[c]⟩
def seqOf : D → Option (List D)
  | .list xs => some xs
  | .tuple xs => some xs
  | .str z => some (signs z)
  | _ => none
def rangeD (lo : Int) (n : Nat) : List D := (List.range n).map fun (i : Nat) => .int (lo + (i : Nat))
def in62 (i : Int) : Bool := decide (-(2 ^ 62) ≤ i) && decide (i < 2 ^ 62)
def rng1 : List D → Option (List D)
  | [.int j] => if in62 j then some (rangeD 0 j.toNat) else none
  | _ => none
def rng2 : List D → Option (List D)
  | [.int i, .int j] => if in62 i && in62 j then some (rangeD i (j - i).toNat) else none
  | _ => none
def enumD (k : Nat) : List D → List D
  | [] => []
  | d :: ds => .tuple [.int (k : Nat), d] :: enumD (k + 1) ds
def enumG : List D → Option (List D)
  | [.list xs] => some (enumD 0 xs)
  | _ => none
def zipD : List D → List D → List D
  | x :: xs, y :: ys => .tuple [x, y] :: zipD xs ys
  | _, _ => []
def zipG : List D → Option (List D)
  | [.list xs, .list ys] => some (zipD xs ys)
  | [.tuple xs, .tuple ys] => some (zipD xs ys)
  | _ => none
def cSeq (f : Env → Res D) : Env → Res (List D) := fun ρ => do
  let d ← f ρ
  ofO (seqOf d)
def cSrc (g : List D → Option (List D)) (fs : List (Env → Res D)) : Env → Res (List D) := fun ρ => do
  let as ← cs fs ρ
  ofO (g as)

/-- J yields the data ds, one a turn, at every heap that comes later -/
structure Src (K : PySem.W.Frag) (later : Hp → Hp → Prop) (J : It) (ds : List D) : Prop where
  go : ∀ (i : Nat) (F H : Hp), later F H → i < ds.length → J.go i H
  yld : ∀ (i : Nat) (d : D) (F H : Hp) (x : V) (H' : Hp), later F H → ds[i]? = some d → J.yld i H x H' → ∃ F', Gr F H F' H' ∧ Dn K F' x d
  stop : ∀ (F H : Hp), later F H → J.stop ds.length H
/-- for a comprehension: the heap grows -/
abbrev LtC (F H : Hp) : Hp → Hp → Prop := fun F' H' => Gr F H F' H'
/-- for a loop: what is frozen stands -/
abbrev LtF (F : Hp) : Hp → Hp → Prop := fun F' H' => Same F F' ∧ Same F' H'
section
variable {K : PySem.W.Frag} {F H : Hp} {a b : Addr} {xs ys : List V} {ds es : List D}
theorem src_list {later : Hp → Hp → Prop} (hl : ∀ F' H', later F' H' → Same F' H' ∧ SqL K H' a xs ∧ DnL K F' xs ds) : Src K later (Itl K a) ds where
  go := fun i F' H' l hi => by
    obtain ⟨s, q, n⟩ := hl F' H' l
    have : i < xs.length := by rw [n.length]; exact hi
    exact ⟨xs, xs[i], q, List.getElem?_eq_getElem this⟩
  yld := fun i d F' H' x H2 l hd y => by
    obtain ⟨s, q, n⟩ := hl F' H' l
    obtain ⟨rfl, y⟩ := y
    obtain ⟨v, e1, e2⟩ := n.get hd
    have := y xs q
    rw [e1] at this; cases this
    exact ⟨F', Gr.refl s, e2⟩
  stop := fun F' H' l => by
    obtain ⟨s, q, n⟩ := hl F' H' l
    exact ⟨xs, q, by rw [n.length]; exact Nat.le_refl _⟩
theorem src_tup {later : Hp → Hp → Prop} (hl : ∀ F' H', later F' H' → Same F' H' ∧ SqT K H' a xs ∧ DnL K F' xs ds) : Src K later (Itt K a) ds where
  go := fun i F' H' l hi => by
    obtain ⟨s, q, n⟩ := hl F' H' l
    have : i < xs.length := by rw [n.length]; exact hi
    exact ⟨xs, xs[i], q, List.getElem?_eq_getElem this⟩
  yld := fun i d F' H' x H2 l hd y => by
    obtain ⟨s, q, n⟩ := hl F' H' l
    obtain ⟨rfl, y⟩ := y
    obtain ⟨v, e1, e2⟩ := n.get hd
    have := y xs q
    rw [e1] at this; cases this
    exact ⟨F', Gr.refl s, e2⟩
  stop := fun F' H' l => by
    obtain ⟨s, q, n⟩ := hl F' H' l
    exact ⟨xs, q, by rw [n.length]; exact Nat.le_refl _⟩
theorem src_str {later : Hp → Hp → Prop} {z : Str} (hl : ∀ F' H', later F' H' → Same F' H') : Src K later (Its z) (signs z) where
  go := fun i F' H' l hi => by
    have : i < z.cps.size := by simpa [signs] using hi
    exact this
  yld := fun i d F' H' x H2 l hd y => by
    obtain ⟨rfl, c, e, rfl⟩ := y
    have : (signs z)[i]? = some (.str ⟨#[c]⟩) := by
      unfold signs
      rw [List.getElem?_map]
      have : z.cps.toList[i]? = some c := by simpa using e
      rw [this]; rfl
    rw [this] at hd; cases hd
    exact ⟨F', Gr.refl (hl _ _ l), .str _⟩
  stop := fun F' H' l => by
    show z.cps.size ≤ (signs z).length
    simp [signs]
theorem src_range {later : Hp → Hp → Prop} {lo : Int} {n : Nat} (hl : ∀ F' H', later F' H' → Same F' H') : Src K later (Itr lo n) (rangeD lo n) where
  go := fun i F' H' l hi => by
    have : i < n := by simpa [rangeD] using hi
    exact this
  yld := fun i d F' H' x H2 l hd y => by
    obtain ⟨rfl, rfl⟩ := y
    have hi : i < n := by
      obtain ⟨q, _⟩ := List.getElem?_eq_some_iff.mp hd
      simpa [rangeD] using q
    have : (rangeD lo n)[i]? = some (.int (lo + (i : Nat))) := by
      unfold rangeD
      rw [List.getElem?_map, List.getElem?_range hi]; rfl
    rw [this] at hd; cases hd
    exact ⟨F', Gr.refl (hl _ _ l), .int _⟩
  stop := fun F' H' l => by
    show n ≤ (rangeD lo n).length
    simp [rangeD]
theorem enumD_length : ∀ (ds : List D) (k : Nat), (enumD k ds).length = ds.length
  | [], _ => rfl
  | _ :: ds, k => by simp [enumD, enumD_length ds (k + 1)]
theorem enumD_get : ∀ (ds : List D) (k i : Nat) (e : D), (enumD k ds)[i]? = some e → ∃ d, ds[i]? = some d ∧ e = .tuple [.int ((k + i : Nat)), d]
  | [], _, _, _, h => by simp [enumD] at h
  | d :: ds, k, 0, e, h => by simp [enumD] at h; exact ⟨d, rfl, h.symm⟩
  | _ :: ds, k, i + 1, e, h => by
    obtain ⟨d, e1, e2⟩ := enumD_get ds (k + 1) i e (by simpa [enumD] using h)
    exact ⟨d, by simpa using e1, by rw [e2]; congr 3; omega⟩
theorem src_enum {later : Hp → Hp → Prop} (hl : ∀ F' H', later F' H' → Same F' H' ∧ SqL K H' a xs ∧ DnL K F' xs ds) : Src K later (Ite K a) (enumD 0 ds) where
  go := fun i F' H' l hi => by
    obtain ⟨s, q, n⟩ := hl F' H' l
    rw [enumD_length] at hi
    have : i < xs.length := by rw [n.length]; exact hi
    exact ⟨xs, xs[i], q, List.getElem?_eq_getElem this⟩
  yld := fun i d F' H' x H2 l hd y => by
    obtain ⟨s, q, n⟩ := hl F' H' l
    obtain ⟨T, x0, rfl, hT, rfl, y⟩ := y
    obtain ⟨d0, e1, rfl⟩ := enumD_get ds 0 i d hd
    obtain ⟨v, e2, e3⟩ := n.get e1
    have := y xs q
    rw [e2] at this; cases this
    have g := Gr.new (o := .tup [.int (i : Nat), x0]) s hT
    refine ⟨_, g, .tup (SqT.of upd_same) (.cons ?_ (.cons (e3.mono g.ff) .nil))⟩
    rw [Nat.zero_add]; exact .int _
  stop := fun F' H' l => by
    obtain ⟨s, q, n⟩ := hl F' H' l
    rw [enumD_length]
    exact ⟨xs, q, by rw [n.length]; exact Nat.le_refl _⟩
theorem zipD_length : ∀ (xs ys : List D), (zipD xs ys).length = min xs.length ys.length
  | [], _ => by simp [zipD]
  | _ :: _, [] => by simp [zipD]
  | _ :: xs, _ :: ys => by simp [zipD, zipD_length xs ys]
theorem zipD_get : ∀ (xs ys : List D) (i : Nat) (e : D), (zipD xs ys)[i]? = some e → ∃ x y, xs[i]? = some x ∧ ys[i]? = some y ∧ e = .tuple [x, y]
  | [], _, _, _, h => by simp [zipD] at h
  | _ :: _, [], _, _, h => by simp [zipD] at h
  | x :: _, y :: _, 0, e, h => by simp [zipD] at h; exact ⟨x, y, rfl, rfl, h.symm⟩
  | _ :: xs, _ :: ys, i + 1, e, h => by
    obtain ⟨x, y, e1, e2, e3⟩ := zipD_get xs ys i e (by simpa [zipD] using h)
    exact ⟨x, y, by simpa using e1, by simpa using e2, e3⟩
theorem src_zip {later : Hp → Hp → Prop} (hl : ∀ F' H', later F' H' → Same F' H' ∧ SqL K H' a xs ∧ DnL K F' xs ds ∧ SqL K H' b ys ∧ DnL K F' ys es) : Src K later (Itz K a b) (zipD ds es) where
  go := fun i F' H' l hi => by
    obtain ⟨s, q, n, q2, n2⟩ := hl F' H' l
    rw [zipD_length] at hi
    have h1 : i < xs.length := by rw [n.length]; omega
    have h2 : i < ys.length := by rw [n2.length]; omega
    exact ⟨xs, ys, xs[i], ys[i], q, q2, List.getElem?_eq_getElem h1, List.getElem?_eq_getElem h2⟩
  yld := fun i d F' H' x H2 l hd y => by
    obtain ⟨s, q, n, q2, n2⟩ := hl F' H' l
    obtain ⟨T, x0, y0, rfl, hT, rfl, y, y'⟩ := y
    obtain ⟨d0, d1, e1, e2, rfl⟩ := zipD_get ds es i d hd
    obtain ⟨v, e3, e4⟩ := n.get e1
    obtain ⟨v', e5, e6⟩ := n2.get e2
    have z1 := y xs q
    rw [e3] at z1; cases z1
    have z2 := y' ys q2
    rw [e5] at z2; cases z2
    have g := Gr.new (o := .tup [x0, y0]) s hT
    exact ⟨_, g, .tup (SqT.of upd_same) (.cons (e4.mono g.ff) (.cons (e6.mono g.ff) .nil))⟩
  stop := fun F' H' l => by
    obtain ⟨s, q, n, q2, n2⟩ := hl F' H' l
    rw [zipD_length]
    exact ⟨xs, ys, q, q2, by rw [n.length, n2.length]; omega⟩
theorem src_zipT {later : Hp → Hp → Prop} (hl : ∀ F' H', later F' H' → Same F' H' ∧ SqT K H' a xs ∧ DnL K F' xs ds ∧ SqT K H' b ys ∧ DnL K F' ys es) : Src K later (RZ.ItzT K a b) (zipD ds es) where
  go := fun i F' H' l hi => by
    obtain ⟨s, q, n, q2, n2⟩ := hl F' H' l
    rw [zipD_length] at hi
    have h1 : i < xs.length := by rw [n.length]; omega
    have h2 : i < ys.length := by rw [n2.length]; omega
    exact ⟨xs, ys, xs[i], ys[i], q, q2, List.getElem?_eq_getElem h1, List.getElem?_eq_getElem h2⟩
  yld := fun i d F' H' x H2 l hd y => by
    obtain ⟨s, q, n, q2, n2⟩ := hl F' H' l
    obtain ⟨T, x0, y0, rfl, hT, rfl, y, y'⟩ := y
    obtain ⟨d0, d1, e1, e2, rfl⟩ := zipD_get ds es i d hd
    obtain ⟨v, e3, e4⟩ := n.get e1
    obtain ⟨v', e5, e6⟩ := n2.get e2
    have z1 := y xs q
    rw [e3] at z1; cases z1
    have z2 := y' ys q2
    rw [e5] at z2; cases z2
    have g := Gr.new (o := .tup [x0, y0]) s hT
    exact ⟨_, g, .tup (SqT.of upd_same) (.cons (e4.mono g.ff) (.cons (e6.mono g.ff) .nil))⟩
  stop := fun F' H' l => by
    obtain ⟨s, q, n, q2, n2⟩ := hl F' H' l
    rw [zipD_length]
    exact ⟨xs, ys, q, q2, by rw [n.length, n2.length]; omega⟩
end

/-- what is walked: for a comprehension (c), for a loop -/
def xI (X : Cx) (W : WX) (F0 H0 : Hp) (O : List Nat) (c : Bool) (f : Env → Res (List D)) : TI := fun σ H R => ∃ ρ F, Rel X.K F0 H0 O ρ σ F H ∧ RQ X.K X.mg W σ F H (f ρ) fun ds => ∀ F' H' J, Gr F H F' H' → Src X.K (if c = true then LtC F' H' else LtF F') J ds → R J H'
section
variable {X : Cx} {W : WX} {F0 H0 : Hp} {O : List Nat} {tg e : Expr} {f : Env → Res D} {pos p : Pos} {fs : List (Env → Res D)}
def iSeq (K : PySem.W.Frag) (te : TE) : TI := fun σ H R => te σ H fun x H1 => (∃ a, x = .ref a ∧ (∃ xs, SqL K H1 a xs) ∧ R (Itl K a) H1) ∨ (∃ a, x = .ref a ∧ (∃ xs, SqT K H1 a xs) ∧ R (Itt K a) H1) ∨ ∃ z, x = .str z ∧ R (Its z) H1
theorem pi_seq {te : TE} (he : PE X e te) : PI X tg e (iSeq X.K te) := by
  refine ⟨fun pins s σ H R I h => ?_⟩
  refine thn (he.run pins s σ H _ I h) fun v s1 ⟨x, H1, I1, r1, q1⟩ => ?_
  rcases q1 with ⟨a, e, ⟨xs, hq⟩, q⟩ | ⟨a, e, ⟨xs, hq⟩, q⟩ | ⟨z, e, q⟩
  · subst e
    cases r1
    obtain ⟨its, rv, p, hz⟩ := I1.list hq
    refine wpAny_pyIter_list p.isList ?_
    refine ⟨s1.heap.objs.size, [s1.heap.objs.size], _, _, H1, rfl, I1.kept (t' := s1.toks) fun b o e => Heap.get?_push_of_some _ e, turn_list a _, ⟨_, Heap.get?_push_size _ rfl, rfl, rfl⟩, fun b hb => ?_, q⟩
    have e : b = s1.heap.objs.size := by simpa using hb
    subst e
    exact I1.fpOk (Nat.le_refl _) (I1.hok.fresh (Nat.le_refl _))
  · subst e
    cases r1
    obtain ⟨its, rv, p, hz⟩ := I1.tuple hq
    refine wpAny_pyIter_tuple (show s1.heap.IsTuple a its.toArray from p) ?_
    refine ⟨s1.heap.objs.size, [s1.heap.objs.size], _, _, H1, rfl, I1.kept (t' := s1.toks) fun b o e => Heap.get?_push_of_some _ e, turn_tuple a _, ⟨_, Heap.get?_push_size _ rfl, rfl, rfl⟩, fun b hb => ?_, q⟩
    have e : b = s1.heap.objs.size := by simpa using hb
    subst e
    exact I1.fpOk (Nat.le_refl _) (I1.hok.fresh (Nat.le_refl _))
  · subst e
    obtain ⟨t, rfl⟩ := r1
    cases ha : z.cps.all (· < 128)
    · exact wpAny_pyIter_wide ha (pi_one (tk := s1.toks) I1 _ (turn_str _ z t "str_iterator" (.inr rfl)) ⟨_, Heap.get?_push_size _ rfl, rfl, rfl⟩ q)
    · exact wpAny_pyIter_ascii ha (pi_one (tk := s1.toks) I1 _ (turn_str _ z t "str_ascii_iterator" (.inl rfl)) ⟨_, Heap.get?_push_size _ rfl, rfl, rfl⟩ q)
theorem PI.of {t t' : TI} (h : PI X tg e t) (i : ∀ σ H R, t' σ H R → t σ H R) : PI X tg e t' := ⟨fun pins s σ H R I q => h.run pins s σ H R I (i σ H R q)⟩
theorem lt_c {F H F' H' : Hp} (l : LtC F H F' H') : Same F' H' := l.fh
/-- in a comprehension the source may be read only -/
theorem pi_seqC (he : PE X e (xR X W F0 H0 O f)) : PI X tg e (xI X W F0 H0 O true (cSeq f)) :=
  PI.of (pi_seq he) fun σ H R ⟨ρ, F, rel, q⟩ => by
    refine ⟨ρ, F, rel, (RQ.seq q).imp fun d _ q1 v F1 H1 g b => ?_⟩
    cases d with
    | list ds =>
      obtain ⟨a, xs, rfl, hq, n⟩ := b.list g.fh
      exact .inl ⟨a, rfl, ⟨xs, hq⟩, q1 F1 H1 _ g (src_list fun F' H' (l : LtC F1 H1 F' H') => ⟨l.fh, l.hh.seq hq, n.mono l.ff⟩)⟩
    | tuple ds =>
      obtain ⟨a, xs, rfl, hq, n⟩ := b.tuple
      exact .inr (.inl ⟨a, rfl, ⟨xs, seqT_same g.fh hq⟩, q1 F1 H1 _ g (src_tup fun F' H' (l : LtC F1 H1 F' H') => ⟨l.fh, seqT_same (l.ff.trans l.fh) hq, n.mono l.ff⟩)⟩)
    | str z =>
      cases b.str
      exact .inr (.inr ⟨z, rfl, q1 F1 H1 _ g (src_str fun F' H' (l : LtC F1 H1 F' H') => l.fh)⟩)
    | none => exact False.elim q1
    | bool _ => exact False.elim q1
    | int _ => exact False.elim q1
    | dict _ => exact False.elim q1
/-- in a loop it is frozen -/
theorem pi_seqF (he : PE X e (xE X W F0 H0 O f)) : PI X tg e (xI X W F0 H0 O false (cSeq f)) :=
  PI.of (pi_seq he) fun σ H R ⟨ρ, F, rel, q⟩ => by
    refine ⟨ρ, F, rel, (RQ.seq q).imp fun d _ q1 v F1 H1 g n => ?_⟩
    cases d with
    | list ds =>
      cases n with
      | @lst a xs _ hq n => exact .inl ⟨a, rfl, ⟨xs, g.fh.seq hq⟩, q1 F1 H1 _ g (src_list fun F' H' (l : LtF F1 F' H') => ⟨l.2, (l.1.trans l.2).seq hq, n.mono l.1⟩)⟩
    | tuple ds =>
      cases n with
      | @tup a xs _ hq n => exact .inr (.inl ⟨a, rfl, ⟨xs, seqT_same g.fh hq⟩, q1 F1 H1 _ g (src_tup fun F' H' (l : LtF F1 F' H') => ⟨l.2, seqT_same (l.1.trans l.2) hq, n.mono l.1⟩)⟩)
    | str z =>
      cases n
      exact .inr (.inr ⟨z, rfl, q1 F1 H1 _ g (src_str fun F' H' (l : LtF F1 F' H') => l.2)⟩)
    | none => exact False.elim q1
    | bool _ => exact False.elim q1
    | int _ => exact False.elim q1
    | dict _ => exact False.elim q1
theorem in62_of {i : Int} (h : in62 i = true) : -(2 ^ 62) ≤ i ∧ i < 2 ^ 62 := by
  simpa [in62] using h
theorem later_same {c : Bool} {F H F' H' : Hp} (l : (if c = true then LtC F H else LtF F) F' H') : Same F' H' := by
  cases c with
  | true => exact (show LtC F H F' H' from l).fh
  | false => exact (show LtF F F' H' from l).2
theorem pi_rng1 {c : Bool} {a : Expr} (hg : Gl X "range") (hm : X.mg "range" = none) (ha : PA X [a] (xA X W F0 H0 O (cs fs))) (hs : starEach [a] X.env = [(false, eval a X.env)]) : PI X tg (.Call (.Name "range" p) [a] [] pos) (xI X W F0 H0 O c (cSrc rng1 fs)) :=
  PI.of (pi_range1 hg hm ha hs) fun σ H R ⟨ρ, F, rel, q⟩ => by
    refine ⟨ρ, F, rel, (RQ.seq q).imp fun as _ q1 vs F1 H1 g n => ?_⟩
    cases e : rng1 as with
    | none => rw [e] at q1; exact False.elim q1
    | some ds =>
      rw [e] at q1
      unfold rng1 at e
      split at e
      · split at e
        · rename_i j _ hj
          cases e
          obtain ⟨h1, h2⟩ := in62_of hj
          cases n with
          | cons n1 n2 =>
            cases n1; cases n2
            exact ⟨j, rfl, h1, h2, q1 F1 H1 _ g (src_range fun F' H' l => later_same l)⟩
        · cases e
      · cases e
theorem pi_rng2 {c : Bool} {a b : Expr} (hg : Gl X "range") (hm : X.mg "range" = none) (ha : PA X [a, b] (xA X W F0 H0 O (cs fs))) (hs : starEach [a, b] X.env = [(false, eval a X.env), (false, eval b X.env)]) (hs2 : starEach [b] X.env = [(false, eval b X.env)]) :
    PI X tg (.Call (.Name "range" p) [a, b] [] pos) (xI X W F0 H0 O c (cSrc rng2 fs)) :=
  PI.of (pi_range2 hg hm ha hs hs2) fun σ H R ⟨ρ, F, rel, q⟩ => by
    refine ⟨ρ, F, rel, (RQ.seq q).imp fun as _ q1 vs F1 H1 g n => ?_⟩
    cases e : rng2 as with
    | none => rw [e] at q1; exact False.elim q1
    | some ds =>
      rw [e] at q1
      unfold rng2 at e
      split at e
      · split at e
        · rename_i i j _ hj
          cases e
          rw [Bool.and_eq_true] at hj
          obtain ⟨h1, h2⟩ := in62_of hj.1
          obtain ⟨h3, h4⟩ := in62_of hj.2
          cases n with
          | cons n1 n2 =>
            cases n2 with
            | cons n2 n3 =>
              cases n1; cases n2; cases n3
              exact ⟨i, j, rfl, ⟨h1, h2, h3, h4⟩, q1 F1 H1 _ g (src_range fun F' H' l => later_same l)⟩
        · cases e
      · cases e
/-- what stands in F is there at all later heaps -/
theorem later_list {c : Bool} {K : PySem.W.Frag} {F H F' H' : Hp} {a : Addr} {xs : List V} {ds : List D} (hq : SqL K F a xs) (n : DnL K F xs ds) (l : (if c = true then LtC F H else LtF F) F' H') : Same F' H' ∧ SqL K H' a xs ∧ DnL K F' xs ds := by
  cases c with
  | true =>
    have l : LtC F H F' H' := l
    exact ⟨l.fh, (l.ff.trans l.fh).seq hq, n.mono l.ff⟩
  | false =>
    have l : LtF F F' H' := l
    exact ⟨l.2, (l.1.trans l.2).seq hq, n.mono l.1⟩
theorem later_tup {c : Bool} {K : PySem.W.Frag} {F H F' H' : Hp} {a : Addr} {xs : List V} {ds : List D} (hq : SqT K F a xs) (n : DnL K F xs ds) (l : (if c = true then LtC F H else LtF F) F' H') : Same F' H' ∧ SqT K H' a xs ∧ DnL K F' xs ds := by
  cases c with
  | true =>
    have l : LtC F H F' H' := l
    exact ⟨l.fh, seqT_same (l.ff.trans l.fh) hq, n.mono l.ff⟩
  | false =>
    have l : LtF F F' H' := l
    exact ⟨l.2, seqT_same (l.1.trans l.2) hq, n.mono l.1⟩
theorem pi_enumX {c : Bool} {a : Expr} {elts : List Expr} {kk : Nat} {tpos : Pos} (hg : Gl X "enumerate") (hm : X.mg "enumerate" = none) (ha : PA X [a] (xA X W F0 H0 O (cs fs))) (hs : starEach [a] X.env = [(false, eval a X.env)]) :
    PI X (.Tuple elts kk tpos) (.Call (.Name "enumerate" p) [a] [] pos) (xI X W F0 H0 O c (cSrc enumG fs)) :=
  PI.of (pi_enum hg hm ha hs) fun σ H R ⟨ρ, F, rel, q⟩ => by
    refine ⟨ρ, F, rel, (RQ.seq q).imp fun as _ q1 vs F1 H1 g n => ?_⟩
    cases e : enumG as with
    | none => rw [e] at q1; exact False.elim q1
    | some ds =>
      rw [e] at q1
      unfold enumG at e
      split at e
      · cases e
        cases n with
        | cons n1 n2 =>
          cases n2
          cases n1 with
          | @lst a xs _ hq n => exact ⟨a, xs, rfl, g.fh.seq hq, q1 F1 H1 _ g (src_enum fun F' H' l => later_list hq n l)⟩
      · cases e
theorem pi_zipX {c : Bool} {a b : Expr} {elts : List Expr} {kk : Nat} {tpos : Pos} (hg : Gl X "zip") (hm : X.mg "zip" = none) (ha : PA X [a, b] (xA X W F0 H0 O (cs fs))) (hs : starEach [a, b] X.env = (false, eval a X.env) :: starEach [b] X.env) (hpl : (backTo pos (starEach [b] X.env)).any (·.1) = false) :
    PI X (.Tuple elts kk tpos) (.Call (.Name "zip" p) [a, b] [] pos) (xI X W F0 H0 O c (cSrc zipG fs)) :=
  PI.of (RZ.pi_zipA hg hm ha hs hpl) fun σ H R ⟨ρ, F, rel, q⟩ => by
    refine ⟨ρ, F, rel, (RQ.seq q).imp fun as _ q1 vs F1 H1 g n => ?_⟩
    cases e : zipG as with
    | none => rw [e] at q1; exact False.elim q1
    | some ds =>
      rw [e] at q1
      unfold zipG at e
      split at e
      · cases e
        cases n with
        | cons n1 n2 =>
          cases n2 with
          | cons n2 n3 =>
            cases n3
            cases n1 with
            | @lst a xs _ hq n =>
              cases n2 with
              | @lst b ys _ hq2 n2 =>
                exact ⟨a, b, xs, ys, rfl, .inl ⟨g.fh.seq hq, g.fh.seq hq2, q1 F1 H1 _ g (src_zip fun F' H' l => ⟨(later_list hq n l).1, (later_list hq n l).2.1, (later_list hq n l).2.2, (later_list hq2 n2 l).2.1, (later_list hq2 n2 l).2.2⟩)⟩⟩
      · cases e
        cases n with
        | cons n1 n2 =>
          cases n2 with
          | cons n2 n3 =>
            cases n3
            cases n1 with
            | @tup a xs _ hq n =>
              cases n2 with
              | @tup b ys _ hq2 n2 =>
                exact ⟨a, b, xs, ys, rfl, .inr ⟨seqT_same g.fh hq, seqT_same g.fh hq2, q1 F1 H1 _ g (src_zipT fun F' H' l => ⟨(later_tup hq n l).1, (later_tup hq n l).2.1, (later_tup hq n l).2.2, (later_tup hq2 n2 l).2.1, (later_tup hq2 n2 l).2.2⟩)⟩⟩
      · cases e
end

/-! ### list comprehensions -/
def compL (tg : D → Env → Res Env) (tt : Env → Res Bool) (elt : Env → Res D) (ρ : Env) : List D → Res (List D)
  | [] => .ok []
  | d :: ds => do
    let ρ1 ← tg d ρ
    let b ← tt ρ1
    if b = true then do
      let y ← elt ρ1
      let ys ← compL tg tt elt ρ ds
      .ok (y :: ys)
    else compL tg tt elt ρ ds
/-- nothing may be raised -/
def nx {α : Type} : Res α → Res α
  | .exc _ => .bad
  | r => r
def cYes : Env → Res Bool := fun _ => .ok true
def cComp (own : List Nat) (tup : Bool) (is : List Nat) (src : Env → Res (List D)) (tt : Env → Res Bool) (elt : Env → Res D) : Env → Res D := fun ρ => do
  let ds ← src ρ
  if ds.length ≤ line then do
    let ys ← nx (compL (cTg tup is) tt elt (wipeE ρ own) ds)
    .ok (.list ys)
  else .bad
theorem wipe_set {α : Type} : ∀ (vs : List Nat) (σ : List (Option V)) (i : Nat) (x : Option V), i ∈ vs → L2.wipe (σ.set i x) vs = L2.wipe σ vs
  | [], _, _, _, h => by simp at h
  | v :: vs, σ, i, x, h => by
    unfold L2.wipe
    by_cases hi : i ∈ vs
    · rw [wipe_set (α := α) vs σ i x hi]
    · have e : i = v := by simpa [hi] using h
      subst e
      have : ∀ (vs : List Nat) (σ : List (Option V)), i ∉ vs → L2.wipe (σ.set i x) vs = (L2.wipe σ vs).set i x := by
        intro vs
        induction vs with
        | nil => intro σ _; rfl
        | cons w ws ih =>
          intro σ h
          unfold L2.wipe
          rw [ih σ (fun z => h (by simp [z])), List.set_comm _ _ (fun z => h (by simp [z]))]
      rw [this vs σ hi, List.set_set]
theorem wipe_setAll : ∀ (is : List Nat) (xs : List V) (vs : List Nat) (σ : List (Option V)), (∀ i ∈ is, i ∈ vs) → L2.wipe (setAll σ is xs) vs = L2.wipe σ vs
  | [], [], _, _, _ => rfl
  | [], _ :: _, _, _, _ => rfl
  | _ :: _, [], _, _, _ => rfl
  | i :: is, x :: xs, vs, σ, h => by
    unfold setAll
    rw [wipe_setAll is xs vs _ fun j hj => h j (by simp [hj]), wipe_set (α := Nat) vs σ i (some x) (h i (by simp))]
theorem wipe_wipe : ∀ (vs us : List Nat) (σ : List (Option V)), (∀ i ∈ vs, i ∈ us) → L2.wipe (L2.wipe σ vs) us = L2.wipe σ us
  | [], _, _, _ => rfl
  | v :: vs, us, σ, h => by
    show L2.wipe ((L2.wipe σ vs).set v none) us = _
    rw [wipe_set (α := Nat) us _ v none (h v (by simp)), wipe_wipe vs us σ fun i hi => h i (by simp [hi])]
section
variable {X : Cx} {W : WX} {F0 H0 : Hp} {O : List Nat}
abbrev noW : WX := fun _ _ _ _ => False
theorem nx_ok {α : Type} {r : Res α} {a : α} (h : nx r = .ok a) : r = .ok a := by
  cases r with
  | ok b => exact h
  | exc x => cases h
  | bad => cases h
theorem RQ.nx {α : Type} {K : PySem.W.Frag} {mg : Str → Option Value} {σ : St} {F H : Hp} {r : Res α} {Q : α → Prop} (h : RQ K mg W σ F H (nx r) Q) : ∃ a, r = .ok a ∧ Q a := by
  cases r with
  | ok b => exact ⟨b, rfl, h⟩
  | exc x => exact False.elim h
  | bad => exact False.elim h
theorem RQ.of_ok {α : Type} {K : PySem.W.Frag} {mg : Str → Option Value} {σ : St} {F H : Hp} {r : Res α} {a : α} {Q : α → Prop} (h : r = .ok a) (q : Q a) : RQ K mg W σ F H r Q := by rw [h]; exact q
/-- the reading of a comprehension -/
theorem lc_rd {own : List (Str × Nat)} {tup : Bool} {is : List Nat} {src : Env → Res (List D)} {tt : Env → Res Bool} {elt : Env → Res D} (hown : ∀ i ∈ is, i ∈ own.map (·.2))
    (σ : St) (H : Hp) (Q : VK) (h : xO X W F0 H0 O (cComp (own.map (·.2)) tup is src tt elt) σ H Q) :
    tLc (xI X W F0 H0 O true src) (xG X F0 H0 O tup is) (tT X.K X.mg noW F0 H0 O tt) (tE X.K X.mg noW F0 H0 O elt) (own.map (·.2)) σ H Q := by
  obtain ⟨ρ, F, rel, q⟩ := h
  refine ⟨ρ, F, rel, (RQ.seq q).imp fun ds _ q1 F1 H1 J g1 S Dd hD => ?_⟩
  by_cases hl : ds.length ≤ line
  · rw [if_pos hl] at q1
    obtain ⟨ys, hys, q2⟩ := RQ.nx (RQ.seq q1)
    have S : Src X.K (LtC F1 H1) J ds := S
    have fD : F1 Dd = none := noneOf g1.fh hD
    refine ⟨fun i m H2 => m = ds.length - i ∧ i ≤ ds.length ∧ ∃ F2 us zs rs, Gr F1 H1 F2 H2 ∧ H2 Dd = some (.lst us) ∧ F2 Dd = none ∧ DnL X.K F2 us zs ∧ compL (cTg tup is) tt elt (wipeE ρ (own.map (·.2))) (ds.drop i) = .ok rs ∧ zs ++ rs = ys ∧ us.length ≤ i, ⟨_, rfl, Nat.zero_le _, F1, [], [], ys, Gr.out g1.fh hD, upd_same, fD, .nil, hys, rfl, Nat.le_refl _⟩, ?_⟩
    rintro i m H2 ⟨rfl, hi, F2, us, zs, rs, g2, hu, hf, nu, hc, hz, hlen⟩
    by_cases hlt : i < ds.length
    · refine .inr ⟨S.go i F2 H2 g2 hlt, fun H' => i + 1 ≤ ds.length ∧ ∃ F2 us zs rs, Gr F1 H1 F2 H' ∧ H' Dd = some (.lst us) ∧ F2 Dd = none ∧ DnL X.K F2 us zs ∧ compL (cTg tup is) tt elt (wipeE ρ (own.map (·.2))) (ds.drop (i + 1)) = .ok rs ∧ zs ++ rs = ys ∧ us.length ≤ i + 1, fun H' hn => ⟨ds.length - (i + 1), by omega, rfl, hn.1, hn.2⟩, fun x H3 yl => ?_⟩
      obtain ⟨F3, g3, nx3⟩ := S.yld i ds[i] F2 H2 x H3 g2 (List.getElem?_eq_getElem hlt) yl
      have g23 := g2.trans g3
      rw [List.drop_eq_getElem_cons hlt] at hc
      obtain ⟨ρ1, e1, hc⟩ := Res.bind_ok (show (cTg tup is ds[i] (wipeE ρ (own.map (·.2))) >>= fun ρ1 => (do
        let b ← tt ρ1
        if b = true then do
          let y ← elt ρ1
          let ys ← compL (cTg tup is) tt elt (wipeE ρ (own.map (·.2))) (ds.drop (i + 1))
          Res.ok (y :: ys)
        else compL (cTg tup is) tt elt (wipeE ρ (own.map (·.2))) (ds.drop (i + 1)))) = .ok rs from hc)
      have relw := ((rel.grow g1).grow g23).wipe (own.map (·.2))
      refine ⟨_, F3, ds[i], ρ1, relw, nx3, e1, ?_⟩
      rintro σ' ⟨vs, rfl⟩ rel2
      refine ⟨by rw [wipe_setAll _ _ _ _ hown, wipe_wipe _ _ _ fun _ h => h], ?_⟩
      obtain ⟨b, e2, hc⟩ := Res.bind_ok hc
      refine ⟨ρ1, F3, rel2, RQ.of_ok e2 fun F4 H4 g4 => ?_⟩
      have g34 := g3.trans g4
      have g24 := g2.trans g34
      have keepD : ∀ {F5 H5 : Hp}, Gr F2 H2 F5 H5 → F5 Dd = none := fun {F5 H5} g => by
        cases z : F5 Dd with
        | none => rfl
        | some o =>
          rcases g.nw Dd o z with w | w
          · rw [hf] at w; cases w
          · rw [hu] at w; cases w
      cases b with
      | true =>
        rw [if_pos rfl] at hc
        obtain ⟨y, e3, hc⟩ := Res.bind_ok hc
        obtain ⟨rs', e4, hc⟩ := Res.bind_ok hc
        cases hc
        refine iteT ⟨ρ1, F4, rel2.grow g4, RQ.of_ok e3 fun v F5 H5 g5 nv => ?_⟩
        have g25 := g34.trans g5
        refine ⟨us, g25.hh _ _ hu, Nat.lt_of_le_of_lt hlen (by have := line_eq; omega), by omega, F5, us ++ [v], zs ++ [y], rs', ?_, upd_same, keepD g25, (nu.mono g25.ff).append (.one nv), e4, by rw [← hz]; simp, by rw [List.length_append]; simp; omega⟩
        have gg := g2.trans g25
        exact ⟨fun b o e => by rw [upd_ne (ne_of_none e hD)]; exact gg.hh b o e, gg.ff, fun b o e => by
          rw [upd_ne (ne_of_none e (keepD g25))]; exact gg.fh b o e, gg.nw⟩
      | false =>
        rw [if_neg Bool.false_ne_true] at hc
        exact iteF ⟨by omega, F4, us, zs, rs, g24, g34.hh _ _ hu, keepD g34, nu.mono g34.ff, hc, hz, by omega⟩
    · have e : i = ds.length := by omega
      subst e
      rw [List.drop_length] at hc
      cases hc
      rw [List.append_nil] at hz
      subst hz
      refine .inl ⟨S.stop F2 H2 g2, ?_⟩
      exact q2 _ F2 H2 (g1.trans g2) ⟨Dd, us, rfl, g1.hh.free hD, hf, hu, nu⟩
  · rw [if_neg hl] at q1; exact False.elim q1
end
end Ev

set_option Elab.async false
set_option linter.all false
set_option maxRecDepth 100000
set_option maxHeartbeats 4000000
/-! The evaluator, part G: statements. -/
namespace Ev
open PySem L2

/-- how a statement ends -/
inductive Fl where
  | next (ρ : Env)
  | ret (d : D)
  | brk (ρ : Env)
  | cnt (ρ : Env)
  | exc (x : Ex)
  | bad
def Fl.of (r : Res α) (k : α → Fl) : Fl := match r with
  | .ok a => k a
  | .exc x => .exc x
  | .bad => .bad
@[simp] theorem Fl.of_ok {α : Type} (a : α) (k : α → Fl) : Fl.of (.ok a) k = k a := rfl
@[simp] theorem Fl.of_exc {α : Type} (x : Ex) (k : α → Fl) : Fl.of (.exc x : Res α) k = .exc x := rfl
@[simp] theorem Fl.of_bad {α : Type} (k : α → Fl) : Fl.of (.bad : Res α) k = .bad := rfl
abbrev Cmd := Env → Fl
def cNext : Cmd := fun ρ => .next ρ
def cBrk : Cmd := fun ρ => .brk ρ
def cCnt : Cmd := fun ρ => .cnt ρ
def cSeqS (a b : Cmd) : Cmd := fun ρ => match a ρ with
  | .next ρ' => b ρ'
  | r => r
def cRet (f : Env → Res D) : Cmd := fun ρ => Fl.of (f ρ) .ret
def cRetN : Cmd := fun _ => .ret .none
def cDrop (f : Env → Res D) : Cmd := fun ρ => Fl.of (f ρ) fun _ => .next ρ
def cIfS (c : Env → Res Bool) (a b : Cmd) : Cmd := fun ρ => Fl.of (c ρ) fun k => if k = true then a ρ else b ρ
def cAsg (tup : Bool) (is : List Nat) (f : Env → Res D) : Cmd := fun ρ => Fl.of (f ρ) fun d => Fl.of (cTg tup is d ρ) .next
def cPar (is : List Nat) (fs : List (Env → Res D)) : Cmd := fun ρ => Fl.of (cs fs ρ) fun ds => .next (setAll ρ is ds)
def forL (tup : Bool) (is : List Nat) (body : Cmd) : List D → Cmd
  | [] => fun ρ => .next ρ
  | d :: ds => fun ρ => Fl.of (cTg tup is d ρ) fun ρ1 => match body ρ1 with
    | .next ρ2 => forL tup is body ds ρ2
    | .cnt ρ2 => forL tup is body ds ρ2
    | .brk ρ2 => .next ρ2
    | r => r
def cFor (tup : Bool) (is : List Nat) (src : Env → Res (List D)) (body : Cmd) : Cmd := fun ρ => Fl.of (src ρ) fun ds => forL tup is body ds ρ
def whileL (c : Env → Res Bool) (body : Cmd) : Nat → Cmd
  | 0 => fun _ => .bad
  | n + 1 => fun ρ => Fl.of (c ρ) fun k => if k = true then (match body ρ with
    | .next ρ2 => whileL c body n ρ2
    | .cnt ρ2 => whileL c body n ρ2
    | .brk ρ2 => .next ρ2
    | r => r) else .next ρ
/-- a slot's value changed in place -/
def cMut (i : Nat) (g : D → Option D) : Cmd := fun ρ => match ρ[i]? with
  | some (some d) => match g d with
    | some d' => .next (ρ.set i (some d'))
    | none => .bad
  | _ => .bad
def putK' (es : List (D × D)) (k : D) (v : D) : List (D × D) := if es.any (fun e => decide (keyOf e.1 = keyOf k)) then es.map (fun e => if keyOf e.1 = keyOf k then (e.1, v) else e) else es ++ [(k, v)]
def setG (k v : D) : D → Option D
  | .list xs => match k with
    | .int i => (ixN xs.length i).map fun j => .list (xs.set j v)
    | _ => none
  | .dict es => match keyOf k with
    | some _ => if es.length < line then some (.dict (putK' es k v)) else none
    | none => none
  | _ => none
/-- o[k] = v: the value first, then the key -/
def cSetI (i : Nat) (k v : Env → Res D) : Cmd := fun ρ => Fl.of (v ρ) fun dv => Fl.of (cSlot i ρ) fun _ => Fl.of (k ρ) fun dk => cMut i (setG dk dv) ρ
def appG (v : D) : D → Option D
  | .list xs => if xs.length < line then some (.list (xs ++ [v])) else none
  | _ => none
def cApp (i : Nat) (v : Env → Res D) : Cmd := fun ρ => Fl.of (v ρ) fun dv => cMut i (appG dv) ρ
/-- a list's append: the slot holds a list -/
def cAppend (i : Nat) (v : Env → Res D) : Cmd := fun ρ => Fl.of (cSlot i ρ) fun d => Fl.of (match d with | .list _ => .ok d | _ => (.bad : Res D)) fun _ => cApp i v ρ

def FQ (K : PySem.W.Frag) (mg : Str → Option Value) (W : WX) (F0 H0 : Hp) (O1 Ob : List Nat) (fr : Bool) (E : Ends) (F : Hp) (r : Fl) : Prop := match r with
  | .next ρ => ∀ σ' F' H', Same F F' → Rel K F0 H0 O1 ρ σ' F' H' → E.nx σ' H'
  | .ret d => ∀ v F' H', Gr F0 H0 F' H' → (if fr = true then Owv K H0 F' H' v d else Dn K F' v d) → E.rt v H'
  | .brk ρ => ∀ σ' F' H', Same F F' → Rel K F0 H0 Ob ρ σ' F' H' → E.bk σ' H'
  | .cnt ρ => ∀ σ' F' H', Same F F' → Rel K F0 H0 Ob ρ σ' F' H' → E.ct σ' H'
  | .exc x => ∀ cls d σ' H', Same H0 H' → ExIs K mg H' x cls d → W cls d σ' H'
  | .bad => False
def tSt (K : PySem.W.Frag) (mg : Str → Option Value) (W : WX) (F0 H0 : Hp) (O O1 Ob : List Nat) (fr : Bool) (f : Cmd) : TS := fun E σ H => ∃ ρ F, Rel K F0 H0 O ρ σ F H ∧ FQ K mg W F0 H0 O1 Ob fr E F (f ρ)
section
variable {K : PySem.W.Frag} {mg : Str → Option Value} {W : WX} {F0 H0 F H F' H' : Hp} {O O1 Ob : List Nat} {fr : Bool} {E : Ends} {ρ : Env} {σ : St}
theorem FQ.later {r : Fl} (h : FQ K mg W F0 H0 O1 Ob fr E F r) (s : Same F F') : FQ K mg W F0 H0 O1 Ob fr E F' r := by
  cases r with
  | next ρ => exact fun σ' F2 H' z => h σ' F2 H' (s.trans z)
  | ret d => exact h
  | brk ρ => exact fun σ' F2 H' z => h σ' F2 H' (s.trans z)
  | cnt ρ => exact fun σ' F2 H' z => h σ' F2 H' (s.trans z)
  | exc x => exact h
  | bad => exact h
theorem Rel.gr (r : Rel K F0 H0 O ρ σ F H) : Gr F0 H0 F H := ⟨r.s0, r.sf0, r.sfh, r.nw⟩
/-- an expression's result, then the rest -/
theorem FQ.of {α : Type} {r : Res α} {k : α → Fl} (s0 : Same H0 H) (h : FQ K mg W F0 H0 O1 Ob fr E F (Fl.of r k)) : RQ K mg W σ F H r fun a => FQ K mg W F0 H0 O1 Ob fr E F (k a) := by
  cases r with
  | ok a => exact h
  | exc x => exact fun cls d H' e z => h cls d σ H' (s0.trans e) z
  | bad => exact h
theorem Rel.setO (r : Rel K F0 H0 O ρ σ F H) (g : Gr F H F' H') {i : Nat} {d : D} {v : V} (hi : i ∈ O) (w : Owv K H F' H' v d) : Rel K F0 H0 O (ρ.set i (some d)) (σ.set i (some v)) F' H' := by
  have r' := r.grow g
  -- a new container stands at an address that no other owner has
  have apart : ∀ {j : Nat} {e : D} {a : Addr}, j ∈ O → ρ[j]? = some (some e) → isC e = true → σ[j]? = some (some (.ref a)) → isC d = true → v = .ref a → False := fun {j e a} hj he hc hs hd hv => by
    obtain ⟨v', e1, e2⟩ := r.ow j e hj he
    rw [hs] at e1; cases e1
    subst hv
    have h1 : H a = none := by
      cases d with
      | list ds => obtain ⟨a', xs, q1, q2, _⟩ := w; cases q1; exact q2
      | dict ds => obtain ⟨a', xs, q1, q2, _⟩ := w; cases q1; exact q2
      | _ => cases hd
    cases e with
    | list ds => obtain ⟨a', xs, q1, q2, q3, q4, _⟩ := e2; cases q1; rw [h1] at q4; cases q4
    | dict ds => obtain ⟨a', xs, q1, q2, q3, q4, _⟩ := e2; cases q1; rw [h1] at q4; cases q4
    | _ => cases hc
  refine ⟨by simp [r.len], r'.sfh, r'.s0, r'.sf0, r'.nw, fun j e h1 h2 => ?_, fun j e h1 h2 => ?_, fun j k d' e' a h1 h2 h3 h4 h5 h6 h7 h8 h9 => ?_⟩
  · have hj : i ≠ j := fun z => h1 (z ▸ hi)
    rw [List.getElem?_set_ne hj] at h2 ⊢
    exact r'.fz j e h1 h2
  · by_cases hj : i = j
    · subst hj
      have hl : i < ρ.length := by
        obtain ⟨q, _⟩ := List.getElem?_eq_some_iff.mp h2
        simpa using q
      rw [List.getElem?_set_self hl] at h2
      cases h2
      exact ⟨v, List.getElem?_set_self (by rw [← r.len]; exact hl), w.z fun a z => r.free z⟩
    · rw [List.getElem?_set_ne hj] at h2 ⊢
      exact r'.ow j e h1 h2
  · have self : ∀ {m : Nat} {f : D} {x : V}, i = m → (ρ.set i (some d))[m]? = some (some f) → (σ.set i (some v))[m]? = some (some x) → f = d ∧ x = v := fun {m f x} e q1 q2 => by
      subst e
      have hl : i < ρ.length := by
        obtain ⟨q, _⟩ := List.getElem?_eq_some_iff.mp q1
        simpa using q
      rw [List.getElem?_set_self hl] at q1
      rw [List.getElem?_set_self (by rw [← r.len]; exact hl)] at q2
      cases q1; cases q2; exact ⟨rfl, rfl⟩
    by_cases hj : i = j
    · obtain ⟨rfl, ev⟩ := self hj h4 h8
      have hk : i ≠ k := fun z => h3 (hj.symm.trans z)
      rw [List.getElem?_set_ne hk] at h5 h9
      exact apart h2 h5 h7 h9 h6 ev.symm
    · by_cases hk : i = k
      · obtain ⟨rfl, ev⟩ := self hk h5 h9
        rw [List.getElem?_set_ne hj] at h4 h8
        exact apart h1 h4 h6 h8 h7 ev.symm
      · rw [List.getElem?_set_ne hj] at h4 h8
        rw [List.getElem?_set_ne hk] at h5 h9
        exact r.ap j k d' e' a h1 h2 h3 h4 h5 h6 h7 h8 h9
/-- an owned object changed in place -/
theorem Rel.mut (r : Rel K F0 H0 O ρ σ F H) {i : Nat} {a : Addr} {d d' : D} {o : HO} (hi : i ∈ O) (hd : ρ[i]? = some (some d)) (hc : isC d = true) (hs : σ[i]? = some (some (.ref a))) (hc' : isC d' = true)
    (w : F a = none → H0 a = none → Owv K H0 F (upd H a o) (.ref a) d') : Rel K F0 H0 O (ρ.set i (some d')) σ F (upd H a o) := by
  obtain ⟨v, e1, e2⟩ := r.ow i d hi hd
  rw [hs] at e1; cases e1
  have facts : F a = none ∧ H0 a = none := by
    cases d with
    | list ds => obtain ⟨a', xs, q1, q2, q3, q4, _⟩ := e2; cases q1; exact ⟨q3, q2⟩
    | dict ds => obtain ⟨a', xs, q1, q2, q3, q4, _⟩ := e2; cases q1; exact ⟨q3, q2⟩
    | _ => cases hc
  obtain ⟨fa, za⟩ := facts
  have hl : i < ρ.length := (List.getElem?_eq_some_iff.mp hd).1
  refine ⟨by simp [r.len], fun b u e => by rw [upd_ne (ne_of_none e fa)]; exact r.sfh b u e, fun b u e => by rw [upd_ne (ne_of_none e za)]; exact r.s0 b u e, r.sf0, r.nw, fun j e h1 h2 => ?_, fun j e h1 h2 => ?_, fun j k d1 e' a' h1 h2 h3 h4 h5 h6 h7 h8 h9 => ?_⟩
  · have hj : i ≠ j := fun z => h1 (z ▸ hi)
    rw [List.getElem?_set_ne hj] at h2
    exact r.fz j e h1 h2
  · by_cases hj : i = j
    · subst hj
      rw [List.getElem?_set_self hl] at h2
      cases h2
      exact ⟨_, hs, w fa za⟩
    · rw [List.getElem?_set_ne hj] at h2
      obtain ⟨v', p1, p2⟩ := r.ow j e h1 h2
      refine ⟨v', p1, ?_⟩
      have ne : ∀ b, isC e = true → v' = .ref b → b ≠ a := fun b hb ev z => r.ap i j d e a hi h1 hj hd h2 hc hb hs (by rw [p1, ev, z])
      cases e with
      | list ds => obtain ⟨b, xs, q1, q2, q3, q4, q5⟩ := p2; exact ⟨b, xs, q1, q2, q3, by rw [upd_ne (ne b rfl q1)]; exact q4, q5⟩
      | dict ds => obtain ⟨b, xs, q1, q2, q3, q4, q5⟩ := p2; exact ⟨b, xs, q1, q2, q3, by rw [upd_ne (ne b rfl q1)]; exact q4, q5⟩
      | none => exact p2
      | bool _ => exact p2
      | int _ => exact p2
      | str _ => exact p2
      | tuple _ => exact p2
  · have back : ∀ {m : Nat} {f : D}, (ρ.set i (some d'))[m]? = some (some f) → isC f = true → ∃ f', ρ[m]? = some (some f') ∧ isC f' = true := fun {m f} q hf => by
      by_cases hm : i = m
      · subst hm; exact ⟨d, hd, hc⟩
      · rw [List.getElem?_set_ne hm] at q; exact ⟨f, q, hf⟩
    obtain ⟨f1, g1, g2⟩ := back h4 h6
    obtain ⟨f2, g3, g4⟩ := back h5 h7
    exact r.ap j k f1 f2 a' h1 h2 h3 g1 g3 g2 g4 h8 h9
end

section
variable {X : Cx} {W : WX} {F0 H0 : Hp} {O O1 Ob : List Nat} {fr : Bool} {pos : Pos}
abbrev xS (X : Cx) (W : WX) (F0 H0 : Hp) (O O1 Ob : List Nat) (fr : Bool) (f : Cmd) : TS := tSt X.K X.mg W F0 H0 O O1 Ob fr f
theorem pss_nilX : PSs X [] (xS X W F0 H0 O O Ob fr cNext) := PSs.of pss_nil fun E σ H ⟨ρ, F, rel, q⟩ => q σ F H (Same.refl _) rel
theorem pss_consX {st : Stmt} {rest : List Stmt} {a b : Cmd} {O2 : List Nat} (h1 : PS X st (xS X W F0 H0 O O1 Ob fr a)) (h2 : PSs X rest (xS X W F0 H0 O1 O2 Ob fr b)) : PSs X (st :: rest) (xS X W F0 H0 O O2 Ob fr (cSeqS a b)) :=
  PSs.of (pss_cons h1 h2) fun E σ H ⟨ρ, F, rel, q⟩ => by
    refine ⟨ρ, F, rel, ?_⟩
    unfold cSeqS at q
    cases e : a ρ with
    | next ρ' =>
      rw [e] at q
      exact fun σ' F' H' s rel' => ⟨ρ', F', rel', FQ.later (show FQ X.K X.mg W F0 H0 O2 Ob fr E F (b ρ') from q) s⟩
    | ret d => rw [e] at q; exact q
    | brk ρ' => rw [e] at q; exact q
    | cnt ρ' => rw [e] at q; exact q
    | exc x => rw [e] at q; exact q
    | bad => rw [e] at q; exact q
/-- fewer owners ahead, more wanted behind -/
theorem PS.owners {st : Stmt} {f : Cmd} {O' : List Nat} (h : PS X st (xS X W F0 H0 O' O1 Ob fr f)) (i : ∀ k ∈ O', k ∈ O) : PS X st (xS X W F0 H0 O O1 Ob fr f) :=
  PS.of h fun E σ H ⟨ρ, F, rel, q⟩ => by
    obtain ⟨F', s, rel'⟩ := rel.sub i
    exact ⟨ρ, F', rel', q.later s⟩
theorem PSs.owners {st : List Stmt} {f : Cmd} {O' : List Nat} (h : PSs X st (xS X W F0 H0 O' O1 Ob fr f)) (i : ∀ k ∈ O', k ∈ O) : PSs X st (xS X W F0 H0 O O1 Ob fr f) :=
  PSs.of h fun E σ H ⟨ρ, F, rel, q⟩ => by
    obtain ⟨F', s, rel'⟩ := rel.sub i
    exact ⟨ρ, F', rel', q.later s⟩
theorem FQ.ends {K : PySem.W.Frag} {mg : Str → Option Value} {E : Ends} {F : Hp} {r : Fl} {O2 : List Nat} (h : FQ K mg W F0 H0 O1 Ob fr E F r) (i : ∀ k ∈ O1, k ∈ O2) : FQ K mg W F0 H0 O2 Ob fr E F r := by
  cases r with
  | next ρ =>
    intro σ' F' H' s rel
    obtain ⟨F2, s2, rel2⟩ := rel.sub i
    exact h σ' F2 H' (s.trans s2) rel2
  | ret d => exact h
  | brk ρ => exact h
  | cnt ρ => exact h
  | exc x => exact h
  | bad => exact h
theorem PSs.after {st : List Stmt} {f : Cmd} {O2 : List Nat} (h : PSs X st (xS X W F0 H0 O O2 Ob fr f)) (i : ∀ k ∈ O1, k ∈ O2) : PSs X st (xS X W F0 H0 O O1 Ob fr f) :=
  PSs.of h fun E σ H ⟨ρ, F, rel, q⟩ => ⟨ρ, F, rel, q.ends i⟩
theorem ps_passX : PS X (.Pass pos) (xS X W F0 H0 O O Ob fr cNext) := PS.of ps_pass fun E σ H ⟨ρ, F, rel, q⟩ => q σ F H (Same.refl _) rel
theorem ps_brkX (i : ∀ k ∈ Ob, k ∈ O) : PS X (.Break pos) (xS X W F0 H0 O O1 Ob fr cBrk) := PS.of ps_break fun E σ H ⟨ρ, F, rel, q⟩ => by
  obtain ⟨F', s, rel'⟩ := rel.sub i
  exact q σ F' H s rel'
theorem ps_cntX (i : ∀ k ∈ Ob, k ∈ O) : PS X (.Continue pos) (xS X W F0 H0 O O1 Ob fr cCnt) := PS.of ps_continue fun E σ H ⟨ρ, F, rel, q⟩ => by
  obtain ⟨F', s, rel'⟩ := rel.sub i
  exact q σ F' H s rel'
theorem ps_dropX {e : Expr} {f : Env → Res D} (he : PE X e (xE X W F0 H0 O f)) (hs : swapsWith e none pos.line X.env = pure false) : PS X (.Expr e pos) (xS X W F0 H0 O O Ob fr (cDrop f)) :=
  PS.of (ps_expr he hs) fun E σ H ⟨ρ, F, rel, q⟩ => ⟨ρ, F, rel, (FQ.of rel.s0 q).imp fun d _ q1 v F' H' g n => q1 σ F' H' g.ff (rel.grow g)⟩
/-- return: nothing is changed any more -/
theorem ps_retX {e : Expr} {f : Env → Res D} (he : PE X e (xE X W F0 H0 [] f)) : PS X (.Return (some e) pos) (xS X W F0 H0 O O1 Ob false (cRet f)) :=
  PS.owners (O' := []) (PS.of (ps_ret he) fun E σ H ⟨ρ, F, rel, q⟩ => ⟨ρ, F, rel, (FQ.of rel.s0 q).imp fun d _ q1 v F' H' g n => q1 v F' H' (rel.gr.trans g) n⟩) fun k h => absurd h (by simp)
theorem ps_retNX : PS X (.Return none pos) (xS X W F0 H0 O O1 Ob fr cRetN) :=
  PS.of ps_retN fun E σ H ⟨ρ, F, rel, q⟩ => q .non F H rel.gr (by cases fr <;> exact .non)
/-- a fresh value handed back -/
theorem ps_retO {e : Expr} {f : Env → Res D} (he : PE X e (xO X W F0 H0 [] f)) : PS X (.Return (some e) pos) (xS X W F0 H0 O O1 Ob true (cRet f)) :=
  PS.owners (O' := []) (PS.of (ps_ret he) fun E σ H ⟨ρ, F, rel, q⟩ => ⟨ρ, F, rel, (FQ.of rel.s0 q).imp fun d _ q1 v F' H' g n => q1 v F' H' (rel.gr.trans g) (n.z fun a z => rel.free z)⟩) fun k h => absurd h (by simp)
/-- an owned name handed back -/
theorem ps_retOwn {i : Nat} {x : Str} {p : Pos} (hi : i ∈ O) (hN : X.N[i]? = some x) (hv : Vis X.env.scope x) (hd : (x == ("__debug__" : Str)) = false) (hcd : (x == ("__classdict__" : Str)) = false) : PS X (.Return (some (.Name x p)) pos) (xS X W F0 H0 O O1 Ob true (cRet (cSlot i))) :=
  PS.of (ps_ret (pe_var hN hv hd hcd)) fun E σ H ⟨ρ, F, rel, q⟩ => by
    unfold cRet cSlot at q
    split at q
    · rename_i d e
      obtain ⟨v, e1, e2⟩ := rel.ow i d hi e
      exact ⟨v, e1, q v F H rel.gr e2⟩
    · exact False.elim q
theorem ps_ifX {c : Expr} {a b : List Stmt} {fc : Env → Res Bool} {fa fb : Cmd} (hc : PT X c (xT X W F0 H0 O fc)) (ha : PSs X a (xS X W F0 H0 O O1 Ob fr fa)) (hb : PSs X b (xS X W F0 H0 O O1 Ob fr fb)) : PS X (.If c a b pos) (xS X W F0 H0 O O1 Ob fr (cIfS fc fa fb)) :=
  PS.of (ps_if hc ha hb) fun E σ H ⟨ρ, F, rel, q⟩ => by
    refine ⟨ρ, F, rel, (FQ.of rel.s0 q).imp fun k _ q1 F' H' g => ?_⟩
    cases k with
    | true => exact iteT ⟨ρ, F', rel.grow g, FQ.later (show FQ X.K X.mg W F0 H0 O1 Ob fr E F (fa ρ) from q1) g.ff⟩
    | false => exact iteF ⟨ρ, F', rel.grow g, FQ.later (show FQ X.K X.mg W F0 H0 O1 Ob fr E F (fb ρ) from q1) g.ff⟩
/-! ### assignments -/
theorem asg_rd {tup : Bool} {is : List Nat} {f : Env → Res D} (σ : St) (H : Hp) (E : Ends) (h : xS X W F0 H0 O O Ob fr (cAsg tup is f) E σ H) : tAsg (xE X W F0 H0 O f) (xG X F0 H0 O tup is) E σ H := by
  obtain ⟨ρ, F, rel, q⟩ := h
  refine ⟨ρ, F, rel, (FQ.of rel.s0 q).imp fun d _ q1 v F' H' g n => ?_⟩
  cases e : cTg tup is d ρ with
  | ok ρ' => rw [e] at q1; exact ⟨ρ, F', d, ρ', rel.grow g, n, e, fun σ' _ rel' => q1 σ' F' H' g.ff rel'⟩
  | exc x =>
    unfold cTg at e
    cases tup with
    | false => cases e
    | true =>
      cases d with
      | tuple ds => dsimp only at e; split at e <;> cases e
      | _ => cases e
  | bad => rw [e] at q1; exact False.elim q1
theorem ps_asgX {tg e : Expr} {tup : Bool} {is : List Nat} {f : Env → Res D} (he : PE X e (xE X W F0 H0 O f)) (hg : PG X tg (xG X F0 H0 O tup is)) (hs : swapsWithSole [tg] e pos.line X.env = pure false) (hw : swappedStores [tg] e X.env = pure none)
    (h1 : (assignEach [tg] X.env).map (·.2) = [assign tg X.env]) : PS X (.Assign [tg] e pos) (xS X W F0 H0 O O Ob fr (cAsg tup is f)) := PS.of (ps_asg he hg hs hw h1) fun E σ H q => asg_rd σ H E q
/-- name = e, the name owned: e makes its value -/
theorem own_rd {i : Nat} {f : Env → Res D} (hi : i ∈ O) (σ : St) (H : Hp) (E : Ends) (h : xS X W F0 H0 O O Ob fr (cAsg false [i] f) E σ H) : tAsg (xO X W F0 H0 O f) (gName i) E σ H := by
  obtain ⟨ρ, F, rel, q⟩ := h
  exact ⟨ρ, F, rel, (FQ.of rel.s0 q).imp fun d _ q1 v F' H' g w => q1 _ F' H' g.ff (rel.setO g hi w)⟩
theorem name_rd {i : Nat} {f : Env → Res D} (hi : i ∉ O) (σ : St) (H : Hp) (E : Ends) (h : xS X W F0 H0 O O Ob fr (cAsg false [i] f) E σ H) : tAsg (xE X W F0 H0 O f) (gName i) E σ H := by
  obtain ⟨ρ, F, rel, q⟩ := h
  exact ⟨ρ, F, rel, (FQ.of rel.s0 q).imp fun d _ q1 v F' H' g n => q1 _ F' H' g.ff ((rel.grow g).set hi n)⟩
/-- a, b = x, y -/
theorem par_rd {i j : Nat} {fs : List (Env → Res D)} (hi : i ∉ O) (hj : j ∉ O) (h2 : fs.length = 2) (σ : St) (H : Hp) (E : Ends) (h : xS X W F0 H0 O O Ob fr (cPar [i, j] fs) E σ H) : tPar i j (xA X W F0 H0 O (cs fs)) E σ H := by
  obtain ⟨ρ, F, rel, q⟩ := h
  refine ⟨ρ, F, rel, (FQ.of rel.s0 q).imp fun ds hds q1 vs F' H' g n => ?_⟩
  match fs, h2 with
  | [f1, f2], _ =>
    obtain ⟨a, e1, e2⟩ := Res.bind_ok (show (f1 ρ >>= fun a => (cs [f2] ρ >>= fun as => Res.ok (a :: as))) = .ok ds from hds)
    obtain ⟨r, e3, e4⟩ := Res.bind_ok e2
    obtain ⟨b, e5, e6⟩ := Res.bind_ok (show (f2 ρ >>= fun a => (cs [] ρ >>= fun as => Res.ok (a :: as))) = .ok r from e3)
    cases e6
    cases e4
    cases n with
    | cons n1 n2 =>
      cases n2 with
      | cons n2 n3 =>
        cases n3
        exact ⟨_, _, rfl, q1 _ F' H' g.ff (((rel.grow g).set hi n1).set hj n2)⟩
/-! ### loops -/
theorem forL_exc {tup : Bool} {is : List Nat} {d : D} {ρ : Env} {x : Ex} : cTg tup is d ρ ≠ .exc x := by
  intro e
  unfold cTg at e
  cases tup with
  | false => cases e
  | true =>
    cases d with
    | tuple ds => dsimp only at e; split at e <;> cases e
    | _ => cases e
theorem for_rd {tup : Bool} {is : List Nat} {src : Env → Res (List D)} {body : Cmd} {Ol : List Nat} (ho : ∀ k ∈ O1, k ∈ Ol) (σ : St) (H : Hp) (E : Ends) (h : xS X W F0 H0 Ol O1 Ob fr (cFor tup is src body) E σ H) :
    tFor (xI X W F0 H0 Ol false src) (xG X F0 H0 Ol tup is) (xS X W F0 H0 Ol Ol Ol fr body) E σ H := by
  obtain ⟨ρ, F, rel, q⟩ := h
  refine ⟨ρ, F, rel, (FQ.of rel.s0 q).imp fun ds _ q1 F1 H1 J g S => ?_⟩
  have S : Src X.K (LtF F1) J ds := S
  refine ⟨fun i m σ H => m = ds.length - i ∧ i ≤ ds.length ∧ ∃ ρ F2, Rel X.K F0 H0 Ol ρ σ F2 H ∧ Same F1 F2 ∧ FQ X.K X.mg W F0 H0 O1 Ob fr E F2 (forL tup is body (ds.drop i) ρ), ⟨_, rfl, Nat.zero_le _, ρ, F1, rel.grow g, Same.refl _, q1.later g.ff⟩, ?_⟩
  rintro i m σ2 H2 ⟨rfl, hi, ρ2, F2, rel2, s2, q2⟩
  have lt : LtF F1 F2 H2 := ⟨s2, rel2.sfh⟩
  by_cases hlt : i < ds.length
  · refine .inr ⟨S.go i F2 H2 lt hlt, fun σ' H' => i + 1 ≤ ds.length ∧ ∃ ρ F2, Rel X.K F0 H0 Ol ρ σ' F2 H' ∧ Same F1 F2 ∧ FQ X.K X.mg W F0 H0 O1 Ob fr E F2 (forL tup is body (ds.drop (i + 1)) ρ), fun σ' H' n => ⟨ds.length - (i + 1), by omega, rfl, n.1, n.2⟩, fun x H3 y => ?_⟩
    obtain ⟨F3, g3, n3⟩ := S.yld i ds[i] F2 H2 x H3 lt (List.getElem?_eq_getElem hlt) y
    rw [List.drop_eq_getElem_cons hlt] at q2
    have q2 : FQ X.K X.mg W F0 H0 O1 Ob fr E F2 (Fl.of (cTg tup is ds[i] ρ2) fun ρ1 => match body ρ1 with
      | .next ρ2 => forL tup is body (ds.drop (i + 1)) ρ2
      | .cnt ρ2 => forL tup is body (ds.drop (i + 1)) ρ2
      | .brk ρ2 => .next ρ2
      | r => r) := q2
    cases e : cTg tup is ds[i] ρ2 with
    | exc x => exact absurd e forL_exc
    | bad => rw [e] at q2; exact False.elim q2
    | ok ρ3 =>
      rw [e] at q2
      refine ⟨ρ2, F3, ds[i], ρ3, rel2.grow g3, n3, e, fun σ3 _ rel3 => ⟨ρ3, F3, rel3, ?_⟩⟩
      simp only [Fl.of_ok] at q2
      cases e4 : body ρ3 with
      | next ρ4 =>
        rw [e4] at q2
        exact fun σ' F' H' s rel' => ⟨by omega, ρ4, F', rel', (s2.trans g3.ff).trans s, FQ.later (F := F2) q2 (g3.ff.trans s)⟩
      | cnt ρ4 =>
        rw [e4] at q2
        exact fun σ' F' H' s rel' => ⟨by omega, ρ4, F', rel', (s2.trans g3.ff).trans s, FQ.later (F := F2) q2 (g3.ff.trans s)⟩
      | brk ρ4 =>
        rw [e4] at q2
        exact fun σ' F' H' s rel' => by
          obtain ⟨F5, s5, rel5⟩ := rel'.sub ho
          exact q2 σ' F5 H' ((g3.ff.trans s).trans s5) rel5
      | ret d => rw [e4] at q2; exact q2
      | exc x => rw [e4] at q2; exact q2
      | bad => rw [e4] at q2; exact q2
  · have e : i = ds.length := by omega
    subst e
    refine .inl ⟨S.stop F2 H2 lt, ?_⟩
    rw [List.drop_length] at q2
    obtain ⟨F5, s5, rel5⟩ := rel2.sub ho
    exact q2 σ2 F5 H2 s5 rel5
theorem while_rd {c : Env → Res Bool} {body : Cmd} {Ol : List Nat} {n : Nat} (ho : ∀ k ∈ O1, k ∈ Ol) (σ : St) (H : Hp) (E : Ends) (h : xS X W F0 H0 Ol O1 Ob fr (whileL c body n) E σ H) :
    tWhile (xT X W F0 H0 Ol c) (xS X W F0 H0 Ol Ol Ol fr body) E σ H := by
  obtain ⟨ρ, F, rel, q⟩ := h
  refine ⟨fun m σ H => ∃ ρ F, Rel X.K F0 H0 Ol ρ σ F H ∧ FQ X.K X.mg W F0 H0 O1 Ob fr E F (whileL c body m ρ), ⟨n, ρ, F, rel, q⟩, ?_⟩
  rintro m σ2 H2 ⟨ρ2, F2, rel2, q2⟩
  cases m with
  | zero => exact False.elim q2
  | succ m =>
    refine ⟨ρ2, F2, rel2, (FQ.of rel2.s0 q2).imp fun k _ q3 F3 H3 g3 => ?_⟩
    cases k with
    | false =>
      refine iteF ?_
      obtain ⟨F5, s5, rel5⟩ := (rel2.grow g3).sub ho
      exact q3 σ2 F5 H3 (g3.ff.trans s5) rel5
    | true =>
      refine iteT ⟨fun σ' H' => ∃ ρ F, Rel X.K F0 H0 Ol ρ σ' F H' ∧ FQ X.K X.mg W F0 H0 O1 Ob fr E F (whileL c body m ρ), fun σ' H' w => ⟨m, Nat.lt_succ_self m, w⟩, ρ2, F3, rel2.grow g3, ?_⟩
      have q4 : FQ X.K X.mg W F0 H0 O1 Ob fr E F2 (match body ρ2 with
        | .next ρ2 => whileL c body m ρ2
        | .cnt ρ2 => whileL c body m ρ2
        | .brk ρ2 => .next ρ2
        | r => r) := q3
      cases e4 : body ρ2 with
      | next ρ4 =>
        rw [e4] at q4
        exact fun σ' F' H' s rel' => ⟨ρ4, F', rel', FQ.later (F := F2) q4 (g3.ff.trans s)⟩
      | cnt ρ4 =>
        rw [e4] at q4
        exact fun σ' F' H' s rel' => ⟨ρ4, F', rel', FQ.later (F := F2) q4 (g3.ff.trans s)⟩
      | brk ρ4 =>
        rw [e4] at q4
        exact fun σ' F' H' s rel' => by
          obtain ⟨F5, s5, rel5⟩ := rel'.sub ho
          exact q4 σ' F5 H' ((g3.ff.trans s).trans s5) rel5
      | ret d => rw [e4] at q4; exact q4
      | exc x => rw [e4] at q4; exact q4
      | bad => rw [e4] at q4; exact q4
/-! ### what is changed in place -/
theorem FQ.mut {K : PySem.W.Frag} {mg : Str → Option Value} {E : Ends} {F : Hp} {ρ : Env} {i : Nat} {g : D → Option D} (h : FQ K mg W F0 H0 O1 Ob fr E F (cMut i g ρ)) :
    ∃ d d', ρ[i]? = some (some d) ∧ g d = some d' ∧ ∀ σ' F' H', Same F F' → Rel K F0 H0 O1 (ρ.set i (some d')) σ' F' H' → E.nx σ' H' := by
  unfold cMut at h
  split at h
  · rename_i d e
    split at h
    · rename_i d' e'
      exact ⟨d, d', e, e', h⟩
    · exact False.elim h
  · exact False.elim h
theorem DnK.put {K : PySem.W.Frag} {F : Hp} {k : Key} {v : V} {dk d : D} (hk : keyOf dk = some k) (n : Dn K F v d) : ∀ {es : List (D × D)} {ks : List (Key × V)}, DnK K F ks es → DnK K F (putK ks k v) (putK' es dk d) := by
  have any : ∀ {es : List (D × D)} {ks : List (Key × V)}, DnK K F ks es → (ks.any fun kv => decide (kv.1 = k)) = es.any fun e => decide (keyOf e.1 = keyOf dk) := by
    intro es
    induction es with
    | nil => intro ks h; cases h; rfl
    | cons e es ih =>
      intro ks h
      cases h with
      | @cons k' v' ks' d' _ h1 h2 =>
        rw [List.any_cons, List.any_cons, ih h2, hk, keyOf_kD]
        congr 1
        by_cases z : k' = k <;> simp [z]
  have mp : ∀ {es : List (D × D)} {ks : List (Key × V)}, DnK K F ks es → DnK K F (ks.map fun kv => if kv.1 = k then (kv.1, v) else kv) (es.map fun e => if keyOf e.1 = keyOf dk then (e.1, d) else e) := by
    intro es
    induction es with
    | nil => intro ks h; cases h; exact .nil
    | cons e es ih =>
      intro ks h
      cases h with
      | @cons k' v' ks' d' _ h1 h2 =>
        rw [List.map_cons, List.map_cons]
        by_cases z : k' = k
        · rw [if_pos z, if_pos (by rw [keyOf_kD, hk, z])]
          exact .cons n (ih h2)
        · rw [if_neg z, if_neg (by rw [keyOf_kD, hk]; intro w; exact z (Option.some.inj w))]
          exact .cons h1 (ih h2)
  have snoc : ∀ {es : List (D × D)} {ks : List (Key × V)}, DnK K F ks es → DnK K F (ks ++ [(k, v)]) (es ++ [(kD k, d)]) := by
    intro es
    induction es with
    | nil => intro ks h; cases h; exact .cons n .nil
    | cons e es ih =>
      intro ks h
      cases h with
      | cons h1 h2 => exact .cons h1 (ih h2)
  have ek : dk = kD k := by
    cases dk <;> simp [keyOf] at hk <;> subst hk <;> rfl
  intro es ks h
  unfold putK putK'
  rw [any h]
  split
  · exact mp h
  · have := snoc h
    rw [← ek] at this
    exact this
def rSetX : V → V → V → Hp → (Hp → Prop) → Prop := fun o i v H Q => rSetL o i v H Q ∨ rSetD o i v H Q
theorem set_X (hu : X.A.units + 1 < cLine) : PSet X rSetX := by
  intro pins s σ H o i v ov iv u Q I r1 r2 r3 h
  rcases h with h | h
  · exact set_list pins s σ H o i v ov iv u Q I r1 r2 r3 h
  · exact set_dict hu pins s σ H o i v ov iv u Q I r1 r2 r3 h
theorem FQ.slot {K : PySem.W.Frag} {mg : Str → Option Value} {E : Ends} {F : Hp} {ρ : Env} {i : Nat} {k : D → Fl} (h : FQ K mg W F0 H0 O1 Ob fr E F (Fl.of (cSlot i ρ) k)) : ∃ d, ρ[i]? = some (some d) ∧ FQ K mg W F0 H0 O1 Ob fr E F (k d) := by
  unfold cSlot at h
  split at h
  · rename_i d e
    exact ⟨d, e, h⟩
  · exact False.elim h
/-- the step itself -/
theorem set_step {i : Nat} {a v kv : V} {dk dv d d' : D} {ρ : Env} {σ : St} {F H : Hp} {Q : Hp → Prop} (hi : i ∈ O) (rel : Rel X.K F0 H0 O ρ σ F H) (hd : ρ[i]? = some (some d)) (hs : σ[i]? = some (some a)) (nk : Br X.K F H kv dk) (nv : Dn X.K F v dv) (e : setG dk dv d = some d')
    (q : ∀ H', Rel X.K F0 H0 O (ρ.set i (some d')) σ F H' → Q H') : rSetX a kv v H Q := by
  obtain ⟨u, e1, e2⟩ := rel.ow i d hi hd
  rw [hs] at e1; cases e1
  unfold setG at e
  split at e
  · split at e
    · obtain ⟨j, ej, rfl⟩ := Option.map_eq_some_iff.mp e
      cases nk.int
      obtain ⟨p, us, rfl, h1, h2, h3, h4⟩ := e2
      refine .inl ⟨p, us, _, j, rfl, rfl, h3, by rw [h4.length]; exact ej, q _ (rel.mut hi hd rfl hs rfl fun fa za => ?_)⟩
      exact ⟨p, _, rfl, za, fa, upd_same, h4.set j nv⟩
    · cases e
  · split at e
    · rename_i k0 ek
      split at e
      · rename_i hl
        cases e
        obtain ⟨p, us, rfl, h1, h2, h3, h4⟩ := e2
        have hx := kV_dn (nk.full rel.sfh) ek
        subst hx
        refine .inr ⟨p, _, rfl, DPut.k h3 (by rw [h4.length, line_eq]; exact hl), q _ (rel.mut hi hd rfl hs rfl fun fa za => ?_)⟩
        exact ⟨p, _, rfl, za, fa, upd_same, DnK.put ek nv h4⟩
      · cases e
    · cases e
  · cases e
theorem setI_rd {i : Nat} {k v : Env → Res D} (hi : i ∈ O) (σ : St) (H : Hp) (E : Ends) (h : xS X W F0 H0 O O Ob fr (cSetI i k v) E σ H) : tAsg (xE X W F0 H0 O v) (gSub (tVar i) (xR X W F0 H0 O k) rSetX) E σ H := by
  obtain ⟨ρ, F, rel, q⟩ := h
  refine ⟨ρ, F, rel, (FQ.of rel.s0 q).imp fun dv _ q1 u F1 H1 g1 n1 => ?_⟩
  obtain ⟨d, hd, q2⟩ := FQ.slot q1
  have rel1 := rel.grow g1
  obtain ⟨a, hs, _⟩ := rel1.br hd
  refine ⟨a, hs, ρ, F1, rel1, (FQ.of rel1.s0 (q2.later g1.ff)).imp fun dk _ q3 kv F2 H2 g2 nk => ?_⟩
  obtain ⟨d0, d', h1, h2, h3⟩ := FQ.mut q3
  rw [hd] at h1; cases h1
  have rel2 := rel1.grow g2
  exact set_step hi rel2 hd hs nk (n1.mono g2.ff) h2 fun H' r' => h3 σ F2 H' g2.ff r'
theorem app_rd {i : Nat} {v : Env → Res D} (hi : i ∈ O) (σ : St) (H : Hp) (E : Ends) (h : xS X W F0 H0 O O Ob fr (cAppend i v) E σ H) :
    tDrop (tBM X.K "list" rAppend (tVar i) (tCons (xE X W F0 H0 O v) tNil)) E σ H := by
  obtain ⟨ρ, F, rel, q⟩ := h
  obtain ⟨d, hd, q1⟩ := FQ.slot q
  obtain ⟨a, hs, hb⟩ := rel.br hd
  cases d with
  | list ds =>
    have q1 : FQ X.K X.mg W F0 H0 O Ob fr E F (cApp i v ρ) := q1
    obtain ⟨p, us, rfl, h1, _⟩ := hb.list rel.sfh
    refine ⟨_, hs, .inl ⟨rfl, us, h1⟩, ρ, F, rel, (FQ.of rel.s0 q1).imp fun dv _ q2 u F1 H1 g1 n1 => ?_⟩
    obtain ⟨d0, d', e1, e2, e3⟩ := FQ.mut q2
    rw [hd] at e1; cases e1
    have rel1 := rel.grow g1
    obtain ⟨w, f1, f2⟩ := rel1.ow i _ hi hd
    rw [hs] at f1; cases f1
    obtain ⟨p', us', ep, z1, z2, z3, z4⟩ := f2
    cases ep
    simp only [appG] at e2
    split at e2
    · rename_i hl
      cases e2
      refine ⟨p, us', u, rfl, rfl, z3, by rw [z4.length, line_eq]; exact hl, e3 σ F1 _ g1.ff (rel1.mut hi hd rfl hs rfl fun fa za => ?_)⟩
      exact ⟨p, _, rfl, za, fa, upd_same, z4.append (.one n1)⟩
    · cases e2
  | none => exact False.elim q1
  | bool _ => exact False.elim q1
  | int _ => exact False.elim q1
  | str _ => exact False.elim q1
  | tuple _ => exact False.elim q1
  | dict _ => exact False.elim q1
end
end Ev

set_option Elab.async false
set_option linter.all false
set_option maxRecDepth 100000
set_option maxHeartbeats 4000000
/-! The evaluator, part H: the compiler of expressions, and that it is right. -/
namespace Ev
open PySem L2

/-- what is known of the module's names: defs by number, constants, built-ins that stand as they were -/
structure GT where
  fns : List (Str × Nat)
  consts : List (Str × D)
  bis : List Str
  frs : List Str
def okName (x : Str) : Bool := !(x == ("__debug__" : Str)) && !(x == ("__classdict__" : Str)) && !(x == ("__name__" : Str))
def isVis (sc : Scope) (x : Str) : Bool := match sc.names.lookup x with
  | some .local => true
  | some .cell => true
  | some .free => true
  | _ => false
def isGl (sc : Scope) (x : Str) : Bool := match sc.names.lookup x with
  | some .globalImplicit => true
  | _ => false
def ixOf (N : List Str) (x : Str) : Option Nat := N.findIdx? (· == x)
def negD : D → Option D
  | .int i => some (.int (-i))
  | _ => none
def opOf : Operator → Option (D → D → Option D)
  | .Add => some addD
  | .Sub => some subD
  | .Mult => some mulD
  | .Mod => some modD
  | .FloorDiv => some fdivD
  | .Pow => some powD
  | .RShift => some shrD
  | .LShift => some shlD
  | .BitAnd => some andD
  | _ => none
def cmpOf : CmpOp → Option (D → D → Option D)
  | .Eq => some eqD
  | .NotEq => some neD
  | .Lt => some ltD
  | .LtE => some leD
  | .Gt => some gtD
  | .GtE => some geD
  | .In => some inD
  | .NotIn => some notInD
  | .Is => some isD
  | .IsNot => some isNotD
def notSet : Expr → Bool
  | .Set _ _ _ => false
  | _ => true
def notIf : Expr → Bool
  | .IfExp _ _ _ _ => false
  | _ => true
def notStar : Expr → Bool
  | .Starred _ _ => false
  | _ => true
def notSl : Expr → Bool
  | .Slice _ _ _ _ => false
  | _ => true
/-- the built-ins that are called by name with values -/
def biOf (x : Str) : Option (List D → Option D) :=
  if x = "len" then some lenG else if x = "all" then some allG else if x = "any" then some anyG else if x = "sum" then some sumG else if x = "abs" then some absG
  else if x = "max" then some max2G else if x = "min" then some min2G else none
def meth0 (m : Str) : Option (D → Option D) := if m = "upper" then some upperD else none
def tyOf (x : Str) : Option (List D → Option D) :=
  if x = "int" then some intG else if x = "str" then some strG else if x = "tuple" then some tupG else if x = "list" then some lstG else none
def tyName (x : Str) : Option String :=
  if x = "str" then some "str" else if x = "int" then some "int" else if x = "bool" then some "bool" else if x = "tuple" then some "tuple" else if x = "list" then some "list" else if x = "dict" then some "dict" else none
def cCall (fn : Nat → List D → Res D) (i : Nat) (fs : List (Env → Res D)) : Env → Res D := fun ρ => do
  let as ← cs fs ρ
  fn i as
/-- what the names of a target are, by place -/
def namesIx (N : List Str) : List Expr → Option (List (Str × Nat))
  | [] => some []
  | .Name x _ :: r => do
    let i ← ixOf N x
    let l ← namesIx N r
    if okName x then some ((x, i) :: l) else none
  | _ => none
def tgIx (N : List Str) : Expr → Option (Bool × List (Str × Nat))
  | .Name x _ => do
    let i ← ixOf N x
    if okName x then some (false, [(x, i)]) else none
  | .Tuple es _ _ => do
    let l ← namesIx N es
    some (true, l)
  | _ => none
def isLoc (sc : Scope) (x : Str) : Bool := match sc.names.lookup x with
  | some .local => true
  | some .cell => true
  | _ => false
def isTup : Expr → Bool
  | .Tuple _ _ _ => true
  | _ => false
/-- what is walked; ce: how a value is compiled (kept or not); c: by a comprehension; tp: into a tuple's names -/
def compI (G : GT) (ce : Bool → Expr → Option (Env → Res D)) (sc : Scope) (c tp : Bool) (e : Expr) : Option (Env → Res (List D)) := match e with
  | .Call (.Name x _) args [] _ =>
    if (isGl sc x && G.bis.contains x && args.all notStar && okName x && (x == "range" || x == "enumerate" || x == "zip")) = true then
      (match x == "range", x == "enumerate", args with
      | true, _, [a] => (ce true a).map fun f => cSrc rng1 [f]
      | true, _, [a, b] => (do
        let f ← ce true a
        let h ← ce true b
        some (cSrc rng2 [f, h]))
      | false, true, [a] => if tp = true then (ce true a).map fun f => cSrc enumG [f] else none
      | false, false, [a, b] => if tp = true then (do
        let f ← ce true a
        let h ← ce true b
        some (cSrc zipG [f, h])) else none
      | _, _, _ => none)
    else (ce (!c) e).map cSeq
  | e => (ce (!c) e).map cSeq
section
variable (fn : Nat → List D → Res D) (G : GT) (N : List Str)
/-- the expressions; esc: is the value kept -/
def compE : Nat → Scope → List Nat → Bool → Expr → Option (Env → Res D)
  | 0, _, _, _, _ => none
  | n + 1, sc, O, esc, e => match e with
    | .Name x _ =>
      if okName x = true then
        if isVis sc x = true then (do
          let i ← ixOf N x
          if (esc && O.contains i) = true then none else some (cSlot i))
        else if isGl sc x = true then (G.consts.lookup x).map cLit else none
      else none
    | .Constant c _ _ => match c with
      | .none => some (cLit .none)
      | .bool b => some (cLit (.bool b))
      | .int i => some (cLit (.int i))
      | .str s => some (cLit (.str s))
      | _ => none
    | .UnaryOp .Not a _ => if notIf a = true then (compE n sc O true a).map cNot else none
    | .UnaryOp .USub a _ => (compE n sc O false a).map (c1 negD)
    | .BinOp a op b _ => do
      let g ← opOf op
      let f ← compE n sc O false a
      let h ← compE n sc O false b
      some (c2 g f h)
    | .BoolOp op vs pos => match vs with
      | [a] => if notIf a = true then compE n sc O true a else none
      | a :: b :: r => if notIf a = true then (do
        let f ← compE n sc O true a
        let h ← compE n sc O true (.BoolOp op (b :: r) pos)
        match op with
        | .And => some (cAnd f h)
        | .Or => some (cOr f h)) else none
      | [] => none
    | .Compare a ops bs _ => match ops, bs with
      | [op], [b] => if notSet b = true then (do
        let g ← cmpOf op
        let f ← compE n sc O false a
        let h ← compE n sc O false b
        some (c2 g f h)) else none
      | [op, op'], [b, c] => if (notSet b && notSet c) = true then (do
        let g ← cmpOf op
        let g' ← cmpOf op'
        let f ← compE n sc O false a
        let h ← compE n sc O false b
        let k ← compE n sc O false c
        some (cChain g g' f h k)) else none
      | _, _ => none
    | .IfExp c a b _ => if notIf c = true then (do
      let k ← compE n sc O true c
      let f ← compE n sc O true a
      let h ← compE n sc O true b
      some (cIf k f h)) else none
    | .Tuple es _ _ => if es.all notStar = true then (es.mapM (compE n sc O true)).map cTup else none
    | .List es _ => if es.all notStar = true then (es.mapM (compE n sc O true)).map cLst else none
    | .Dict [] [] _ => some (cLit (.dict []))
    | .Call (.Attribute o m apos) [] [] pos => if (notCall o && apos.endLine == pos.line) = true then (do
      let g ← meth0 m
      let f ← compE n sc O false o
      some (c1 g f)) else none
    | .Subscript a s _ => match s with
      | .Slice none none (some (.UnaryOp .USub (.Constant (.int 1) _ _) _)) _ => (compE n sc O false a).map (c1 revD)
      | .Slice l h none _ => do
        let f ← compE n sc O false a
        let l' ← (match l with
          | none => some none
          | some e => (compE n sc O false e).map some)
        let h' ← (match h with
          | none => some none
          | some e => (compE n sc O false e).map some)
        some (cSl f l' h')
      | .Slice _ _ _ _ => none
      | b => do
        let f ← compE n sc O false a
        let h ← compE n sc O false b
        some (c2 ixD f h)
    | .Call (.Name x _) args [] _ => if (isGl sc x && okName x && args.all notStar) = true then
        match G.fns.lookup x with
        | some i => match args with
          | [] => none
          | a :: r => do
            let fs ← (a :: r).mapM (compE n sc O true)
            some (cCall fn i fs)
        | none => if G.bis.contains x = true then
            (match x == "isinstance", args with
            | true, [a, .Name t _] => (do
              let T ← tyName t
              let f ← compE n sc O false a
              if (isGl sc t && okName t && G.bis.contains t) = true then some (cIsi f T) else none)
            | _, [] => none
            | _, a :: r => (do
              let fs ← (a :: r).mapM (compE n sc O false)
              match biOf x with
              | some g => some (cN g fs)
              | none => match tyOf x with
                | some g => some (cN g fs)
                | none => none)) else none
      else none
    | .ListComp elt [⟨tg, iter, ifs, asy⟩] scope _ => if asy = 0 then (do
      let (tup, own) ← tgIx N tg
      let src ← compI G (fun esc e => compE n sc O esc e) sc true (isTup tg) iter
      let cond ← (match ifs with
        | [] => some cYes
        | [c] => if notIf c = true then (compE n (relS scope sc) O true c).map cB else none
        | _ => none)
      let f ← compE n (relS scope sc) O true elt
      if (blkC N sc scope own && own.all (fun p => isLoc scope p.1 && !O.contains p.2) && notSet iter) = true then some (cComp (own.map (·.2)) tup (own.map (·.2)) src cond f) else none) else none
    | _ => none
end
end Ev

set_option Elab.async false
set_option linter.all false
set_option maxRecDepth 100000
set_option maxHeartbeats 4000000
/-! The evaluator, part I: the compiled expressions are right. -/
namespace Ev
open PySem L2

/-- a def's promise by the evaluator -/
def spEv (K : PySem.W.Frag) (mg : Str → Option Value) (m : Nat) (fr : Bool) (F : List D → Res D) : Sp := fun vs H Q E => vs.length = m ∧ ∃ as F0, Same F0 H ∧ DnL K F0 vs as ∧ match F as with
  | .ok d => ∀ v F' H', Gr F0 H F' H' → (if fr = true then Owv K H F' H' v d else Dn K F' v d) → Q v H'
  | .exc x => ∀ cls d H', Same H H' → ExIs K mg H' x cls d → E cls d H'
  | .bad => False
structure XOk (X : Cx) (G : GT) (N : List Str) (sc : Scope) (k : Nat) (fn : Nat → List D → Res D) : Prop where
  n : X.N = N
  nd : N.Nodup
  sc : X.env.scope = sc
  calm : X.calm = true
  room : Room k X.A
  consts : ∀ x d, G.consts.lookup x = some d → ∃ u v, X.mg x = some u ∧ scV d = some v ∧ RelV v u
  bis : ∀ x, G.bis.contains x = true → X.mg x = none
  fns : ∀ x i, G.fns.lookup x = some i → ∃ f fd ps, X.mg x = some (.ref f) ∧ PySem.W.keepIn X.K (.ref f) = true ∧ Binds X.K fd ps [] ∧ FnOk X.prog X.w X.K X.mg X.base (L2.CX X.prog X.w) k f fd ps (spEv X.K X.mg ps.length (G.frs.contains x) (fn i)) ∧ ∀ as : List D, as.length ≠ ps.length → fn i as = .bad
theorem XOk.hu {X : Cx} {G : GT} {N : List Str} {sc : Scope} {k : Nat} {fn : Nat → List D → Res D} (o : XOk X G N sc k fn) : X.A.units + 65 < cLine := by
  have := o.room.un
  omega
/-! ### the syntax's own conditions -/
theorem starEach_ns {e : Expr} (h : notStar e = true) (es : List Expr) (env : PySem.Env) : starEach (e :: es) env = (false, eval e env) :: starEach es env := by
  cases e <;> first | rfl | cases h
theorem starEach_any : ∀ {es : List Expr} (h : es.all notStar = true) (env : PySem.Env) (pos : Pos), (backTo pos (starEach es env)).any (·.1) = false
  | [], _, _, _ => rfl
  | e :: es, h, env, pos => by
    rw [List.all_cons, Bool.and_eq_true] at h
    have ih := starEach_any h.2 env pos
    rw [starEach_ns h.1]
    show (false || (backTo pos (starEach es env)).any (·.1)) = false
    rw [ih]; rfl
theorem mark_ns {op : CmpOp} {b : Expr} (h : notSet b = true) : behindInMarks op b = false := by
  cases b <;> first | rfl | cases h
theorem lastMark_ns {op op' : CmpOp} {b c : Expr} (h : notSet c = true) : lastMarks [op, op'] [b, c] = false := by
  show behindInMarks op' c = false
  exact mark_ns h
theorem plainIx_ns {b : Expr} (h : notSl b = true) : PlainIx b := by
  intro o i
  cases b <;> first | rfl | cases h
theorem folded_ns {b : Expr} (h : notSet b = true) (env : PySem.Env) (x : Value) : foldedSetIterable b env x = pure x := by
  cases b <;> first | rfl | cases h
def plainT : Expr → Bool
  | .UnaryOp .Not _ _ => false
  | .BoolOp _ _ _ => false
  | .IfExp _ _ _ _ => false
  | .Compare _ _ _ _ => false
  | _ => true
theorem plain_test {e : Expr} (h : plainT e = true) (env : PySem.Env) (whole : Sem Value) : isTrue e env whole = (do let v ← whole; standAt e.pos; holding [v] (truthy v)) := by
  cases e <;> first | rfl | (first | cases h | (rename_i op _ _; cases op <;> first | rfl | cases h))
def freshE (G : GT) : Expr → Bool
  | .BinOp _ _ _ _ => true
  | .List _ _ => true
  | .ListComp _ _ _ _ => true
  | .Subscript _ (.Slice _ _ _ _) _ => true
  | .Dict _ _ _ => true
  | .Call (.Attribute _ _ _) _ _ _ => true
  | .Call (.Name x _) _ _ _ => if (G.fns.lookup x).isSome = true then G.frs.contains x else !(x == "isinstance")
  | _ => false
def isBO : Expr → Bool
  | .BoolOp _ _ _ => true
  | _ => false
theorem bo_plain {e : Expr} (h : plainT e = true) : isBO e = true → False := by
  intro z; cases e <;> first | (cases z; done) | (cases h; done)
/-- what is shown of a compiled expression -/
structure Snd (G : GT) (X : Cx) (W : WX) (F0 H0 : Hp) (O : List Nat) (esc : Bool) (e : Expr) (f : Env → Res D) : Prop where
  kept : esc = true → PE X e (xE X W F0 H0 O f)
  read : PE X e (xR X W F0 H0 O f)
  test : notIf e = true → esc = true → PT X e (xT X W F0 H0 O (cB f))
  own : freshE G e = true → PE X e (xO X W F0 H0 O f)
  pw : isBO e = true → esc = true → PW X e (xT X W F0 H0 O (cB f))
section
variable {G : GT} {X : Cx} {W : WX} {F0 H0 : Hp} {O : List Nat} {esc : Bool} {e : Expr} {f : Env → Res D}
theorem Snd.of_e (hf : freshE G e = false) (hp : plainT e = true) (h : PE X e (xE X W F0 H0 O f)) : Snd G X W F0 H0 O esc e f :=
  ⟨fun _ => h, PE.r_of_e h, fun _ _ => PT.of (pt_val h (plain_test hp _)) tB_of, fun z => (by rw [hf] at z; cases z), fun z => (bo_plain hp z).elim⟩
theorem Snd.of_o (hp : plainT e = true) (h : PE X e (xO X W F0 H0 O f)) : Snd G X W F0 H0 O esc e f :=
  ⟨fun _ => PE.e_of_o h, PE.r_of_e (PE.e_of_o h), fun _ _ => PT.of (pt_val (PE.e_of_o h) (plain_test hp _)) tB_of, fun _ => h, fun z => (bo_plain hp z).elim⟩
theorem Snd.of_et (hb : isBO e = false) (hf : freshE G e = false) (h : PE X e (xE X W F0 H0 O f)) (t : notIf e = true → PT X e (xT X W F0 H0 O (cB f))) : Snd G X W F0 H0 O esc e f :=
  ⟨fun _ => h, PE.r_of_e h, fun z _ => t z, fun z => (by rw [hf] at z; cases z), fun z => by rw [hb] at z; cases z⟩
theorem Snd.of_w (hf : freshE G e = false) (h : PE X e (xE X W F0 H0 O f)) (t : PW X e (xT X W F0 H0 O (cB f))) (t2 : PT X e (xT X W F0 H0 O (cB f))) : Snd G X W F0 H0 O esc e f :=
  ⟨fun _ => h, PE.r_of_e h, fun z _ => t2, fun z => (by rw [hf] at z; cases z), fun _ _ => t⟩
/-- lists of expressions -/
theorem mapM_cons {α β : Type} {f : α → Option β} {a : α} {r : List α} {l : List β} (h : (a :: r).mapM f = some l) : ∃ b bs, f a = some b ∧ r.mapM f = some bs ∧ l = b :: bs := by
  rw [List.mapM_cons] at h
  cases e1 : f a with
  | none => rw [e1] at h; cases h
  | some b =>
    rw [e1] at h
    cases e2 : r.mapM f with
    | none => rw [e2] at h; cases h
    | some bs =>
      rw [e2] at h
      cases h
      exact ⟨b, bs, rfl, rfl, rfl⟩
theorem args_e {c : Expr → Option (Env → Res D)} (ih : ∀ e f, c e = some f → Snd G X W F0 H0 O true e f) : ∀ {es : List Expr} {fs : List (Env → Res D)}, es.all notStar = true → es.mapM c = some fs → PA X es (xA X W F0 H0 O (cs fs))
  | [], fs, _, h => by
    rw [List.mapM_nil] at h; cases h
    exact pa_nilE
  | a :: r, fs, hn, h => by
    rw [List.all_cons, Bool.and_eq_true] at hn
    obtain ⟨b, bs, e1, e2, rfl⟩ := mapM_cons h
    exact pa_consE ((ih a b e1).kept rfl) (args_e ih hn.2 e2) (starEach_ns hn.1 _ _)
theorem args_r {c : Expr → Option (Env → Res D)} {esc : Bool} (ih : ∀ e f, c e = some f → Snd G X W F0 H0 O esc e f) : ∀ {es : List Expr} {fs : List (Env → Res D)}, es.all notStar = true → es.mapM c = some fs → PA X es (xAR X W F0 H0 O (cs fs))
  | [], fs, _, h => by
    rw [List.mapM_nil] at h; cases h
    exact pa_nilR
  | a :: r, fs, hn, h => by
    rw [List.all_cons, Bool.and_eq_true] at hn
    obtain ⟨b, bs, e1, e2, rfl⟩ := mapM_cons h
    exact pa_consR (ih a b e1).read (args_r ih hn.2 e2) (starEach_ns hn.1 _ _)
end
theorem okName_dbg {x : Str} (h : okName x = true) : (x == ("__debug__" : Str)) = false ∧ (x == ("__classdict__" : Str)) = false ∧ x ≠ "__name__" := by
  simp only [okName, Bool.and_eq_true, Bool.not_eq_true', beq_eq_false_iff_ne] at h
  exact ⟨beq_eq_false_iff_ne.mpr h.1.1, beq_eq_false_iff_ne.mpr h.1.2, h.2⟩
theorem ixOf_get {N : List Str} {x : Str} {i : Nat} (h : ixOf N x = some i) : N[i]? = some x := by
  unfold ixOf at h
  obtain ⟨h1, h2, _⟩ := List.findIdx?_eq_some_iff_getElem.mp h
  have : N[i] = x := by simpa using h2
  rw [List.getElem?_eq_getElem h1, this]
theorem isVis_vis {sc : Scope} {x : Str} (h : isVis sc x = true) : Vis sc x := by
  unfold isVis at h
  split at h
  · exact .inl ‹_›
  · exact .inr (.inl ‹_›)
  · exact .inr (.inr ‹_›)
  · cases h
theorem isGl_gl {X : Cx} {sc : Scope} {x : Str} (hs : X.env.scope = sc) (h : isGl sc x = true) : Gl X x := by
  unfold isGl at h
  split at h
  · show X.env.scope.names.lookup x = some .globalImplicit
    rw [hs]; assumption
  · cases h
theorem negD_ok {X : Cx} {W : WX} {F0 H0 : Hp} {O : List Nat} {f : Env → Res D} (σ : St) (H : Hp) (Q : VK) (h : xE X W F0 H0 O (c1 negD f) σ H Q) : tUn (rU fun i => .int (-i)) (xR X W F0 H0 O f) σ H Q := by
  obtain ⟨ρ, F, rel, q⟩ := h
  refine ⟨ρ, F, rel, (RQ.seq q).imp fun d _ q1 v F1 H1 g b => ?_⟩
  cases d with
  | int i => cases b.int; exact ⟨i, rfl, q1 _ F1 H1 g (.int _)⟩
  | _ => exact False.elim q1
section
variable {G : GT} {N : List Str} {k : Nat} {fn : Nat → List D → Res D}
theorem call_rd {X : Cx} {W : WX} {F0 H0 : Hp} {O : List Nat} {i m : Nat} {fs : List (Env → Res D)} (hl : ∀ as : List D, as.length ≠ m → fn i as = .bad) (σ : St) (H : Hp) (Q : VK) (h : xE X W F0 H0 O (cCall fn i fs) σ H Q) : tCallS (spEv X.K X.mg m false (fn i)) (WE W) (xA X W F0 H0 O (cs fs)) σ H Q := by
  obtain ⟨ρ, F, rel, q⟩ := h
  refine ⟨ρ, F, rel, (RQ.seq q).imp fun as has q1 vs F1 H1 g n => ?_⟩
  have len : as.length = m := by
    by_cases z : as.length = m
    · exact z
    · rw [hl as z] at q1; exact False.elim q1
  refine ⟨by rw [n.length, len], as, F1, g.fh, n, ?_⟩
  cases e : fn i as with
  | ok d => rw [e] at q1; exact fun v F' H' g' n' => q1 v F' H' (g.trans g') n'
  | exc x => rw [e] at q1; exact fun cls d H' s z => q1 cls d H' (g.hh.trans s) z
  | bad => rw [e] at q1; exact q1
theorem call_rdO {X : Cx} {W : WX} {F0 H0 : Hp} {O : List Nat} {i m : Nat} {fs : List (Env → Res D)} (hl : ∀ as : List D, as.length ≠ m → fn i as = .bad) (σ : St) (H : Hp) (Q : VK) (h : xO X W F0 H0 O (cCall fn i fs) σ H Q) : tCallS (spEv X.K X.mg m true (fn i)) (WE W) (xA X W F0 H0 O (cs fs)) σ H Q := by
  obtain ⟨ρ, F, rel, q⟩ := h
  refine ⟨ρ, F, rel, (RQ.seq q).imp fun as has q1 vs F1 H1 g n => ?_⟩
  have len : as.length = m := by
    by_cases z : as.length = m
    · exact z
    · rw [hl as z] at q1; exact False.elim q1
  refine ⟨by rw [n.length, len], as, F1, g.fh, n, ?_⟩
  cases e : fn i as with
  | ok d => rw [e] at q1; exact fun v F' H' g' n' => q1 v F' H' (g.trans g') (Owv.z n' fun a z => g.hh.free z)
  | exc x => rw [e] at q1; exact fun cls d H' s z => q1 cls d H' (g.hh.trans s) z
  | bad => rw [e] at q1; exact q1
end
end Ev

set_option Elab.async false
set_option linter.all false
set_option maxRecDepth 100000
set_option maxHeartbeats 8000000
/-! The evaluator, part J: the compiled expressions are right, by induction. -/
namespace Ev
open PySem L2
section
variable {X : Cx}
theorem opOf_ok {op : Operator} {g : D → D → Option D} (h : opOf op = some g) : ∃ r, OpR X (binaryOp op) r ∧ Op2 X.K r g := by
  cases op <;> simp only [opOf, Option.some.injEq] at h <;> first | cases h | skip
  · exact ⟨_, op_addX, addD_ok⟩
  · exact ⟨_, op_sub, subD_ok⟩
  · exact ⟨_, op_mulX, mulD_ok⟩
  · exact ⟨_, op_mod, modD_ok⟩
  · exact ⟨_, op_pow, powD_ok⟩
  · exact ⟨_, op_shl, shlD_ok⟩
  · exact ⟨_, op_shr, shrD_ok⟩
  · exact ⟨_, op_and, andD_ok⟩
  · exact ⟨_, op_fdivW, fdivD_ok⟩
theorem cmpOf_ok (hu : X.A.units + 65 < cLine) {op : CmpOp} {g : D → D → Option D} (h : cmpOf op = some g) : ∃ r, OpR X (compareOp op) r ∧ Op2 X.K r g := by
  cases op <;> simp only [cmpOf, Option.some.injEq] at h <;> cases h
  · exact ⟨_, op_eqX hu, eqD_ok⟩
  · exact ⟨_, op_neX hu, neD_ok⟩
  · exact ⟨_, op_ltX hu, ltD_ok⟩
  · exact ⟨_, op_leX, leD_ok⟩
  · exact ⟨_, op_gtX, gtD_ok⟩
  · exact ⟨_, op_geX, geD_ok⟩
  · exact ⟨_, op_isN, isD_ok⟩
  · exact ⟨_, op_notN, isNotD_ok⟩
  · exact ⟨_, op_inX hu, inD_ok⟩
  · exact ⟨_, op_notInX hu, notInD_ok⟩
theorem biOf_ok (hc : X.calm = true) {x : Str} {g : List D → Option D} (h : biOf x = some g) : ∃ id r, CallR X (.builtin id) r ∧ OpN X.K r g ∧ bootBuiltins x = some (.builtin id) := by
  unfold biOf at h
  split at h
  · subst x; cases h; exact ⟨_, _, call_lenX, lenG_ok, by decide +kernel⟩
  split at h
  · subst x; cases h; exact ⟨_, _, cr_all hc, allG_ok, by decide +kernel⟩
  split at h
  · subst x; cases h; exact ⟨_, _, cr_any hc, anyG_ok, by decide +kernel⟩
  split at h
  · subst x; cases h; exact ⟨_, _, cr_sum hc, sumG_ok, by decide +kernel⟩
  split at h
  · subst x; cases h; exact ⟨_, _, call_abs, absG_ok, by decide +kernel⟩
  split at h
  · subst x; cases h; exact ⟨_, _, call_max2 hc, max2G_ok, by decide +kernel⟩
  split at h
  · subst x; cases h; exact ⟨_, _, call_min2 hc, min2G_ok, by decide +kernel⟩
  · cases h
theorem tyOf_ok (hc : X.calm = true) {x : Str} {g : List D → Option D} (h : tyOf x = some g) : ∃ T r, CallR X (.type T) r ∧ OpN X.K r g ∧ bootBuiltins x = some (.type T) := by
  unfold tyOf at h
  split at h
  · subst x; cases h; exact ⟨_, _, call_intX, intG_ok, by decide +kernel⟩
  split at h
  · subst x; cases h; exact ⟨_, _, call_str_int, strG_ok, by decide +kernel⟩
  split at h
  · subst x; cases h; exact ⟨_, _, call_tuple_of, tupG_ok, by decide +kernel⟩
  split at h
  · subst x; cases h; exact ⟨_, _, call_list_of, lstG_ok, by decide +kernel⟩
  · cases h
theorem meth0_ok {m : Str} {g : D → Option D} (h : meth0 m = some g) : ∃ id r, Slot "str" m id ∧ typeOf (.builtin id) = pure (.type "method_descriptor") ∧ MtR X id r ∧ Mt0 X.K r g := by
  unfold meth0 at h
  split at h
  · subst m; cases h; exact ⟨_, _, F.slot_str_upper, F.type_str_upper, mt_upper, upperD_ok⟩
  · cases h
theorem tyName_ok {x : Str} {T : String} (h : tyName x = some T) : tyOk T = true ∧ bootBuiltins x = some (.type T) := by
  unfold tyName at h
  split at h
  · subst x; cases h; exact ⟨by decide, by decide +kernel⟩
  split at h
  · subst x; cases h; exact ⟨by decide, by decide +kernel⟩
  split at h
  · subst x; cases h; exact ⟨by decide, by decide +kernel⟩
  split at h
  · subst x; cases h; exact ⟨by decide, by decide +kernel⟩
  split at h
  · subst x; cases h; exact ⟨by decide, by decide +kernel⟩
  split at h
  · subst x; cases h; exact ⟨by decide, by decide +kernel⟩
  · cases h
end
theorem obind {α β : Type} {o : Option α} {f : α → Option β} {b : β} (h : (o >>= f) = some b) : ∃ a, o = some a ∧ f a = some b := by
  cases o with
  | none => cases h
  | some a => exact ⟨a, rfl, h⟩
theorem ite_some {α : Type} {c : Prop} [Decidable c] {o : Option α} {a : α} (h : (if c then o else none) = some a) : c ∧ o = some a := by
  split at h
  · exact ⟨‹_›, h⟩
  · cases h
section
variable {G : GT} {N : List Str} {k : Nat} {fn : Nat → List D → Res D}
theorem XOk.blk {X : Cx} {sc : Scope} (o : XOk X G N sc k fn) (scope : Scope) (s : Shared) (H : Hp) (C : Addr) (cl : List (Str × Addr)) (fp : List Addr) : XOk (X.blk s H scope (compEnvC scope cl C X.env) fp) G N (relS scope sc) k fn :=
  ⟨o.n, o.nd, by
    have e : (compEnvC scope cl C X.env).scope = relS scope X.env.scope := rfl
    show (compEnvC scope cl C X.env).scope = _
    rw [e, o.sc], o.calm, o.room, o.consts, o.bis, o.fns⟩
theorem namesIx_get {N : List Str} : ∀ {es : List Expr} {l : List (Str × Nat)}, namesIx N es = some l → Paired (fun (e : Expr) (p : Str × Nat) => ∃ pos, e = .Name p.1 pos ∧ N[p.2]? = some p.1 ∧ okName p.1 = true) es l
  | [], l, h => by cases h; exact .nil
  | e :: r, l, h => by
    cases e with
    | Name x pos =>
      obtain ⟨i, e1, h⟩ := obind (show (ixOf N x >>= fun i => (namesIx N r >>= fun l => if okName x then some ((x, i) :: l) else none)) = some l from h)
      obtain ⟨l', e2, h⟩ := obind h
      obtain ⟨h3, h4⟩ := ite_some h
      cases h4
      exact .cons ⟨pos, rfl, ixOf_get e1, h3⟩ (namesIx_get e2)
    | _ => cases h
/-- names that are stored -/
theorem pg_list {X : Cx} (hN : X.N = N) (nd : N.Nodup) {es : List Expr} {l : List (Str × Nat)} (h : Paired (fun (e : Expr) (p : Str × Nat) => ∃ pos, e = .Name p.1 pos ∧ N[p.2]? = some p.1 ∧ okName p.1 = true) es l)
    (hs : ∀ p ∈ l, Loc X.env.scope p.1 ∧ (X.fn p.1 = true ∨ X.env.scope.names.lookup p.1 = some .local)) : PGs X es (gNames (l.map (·.2))) ∧ (assignEach es X.env).length = (l.map (·.2)).length ∧ (assignEach es X.env).findIdx? (·.1) = none := by
  subst hN
  induction h with
  | nil => exact ⟨pgs_names .nil, rfl, rfl⟩
  | @cons e p es l h1 h2 ih =>
    obtain ⟨pos, rfl, h3, h4⟩ := h1
    obtain ⟨i1, i2, i3⟩ := ih fun q hq => hs q (by simp [hq])
    obtain ⟨s1, s2⟩ := hs p (by simp)
    have g : PG X (.Name p.1 pos) (gName p.2) := pg_name nd h3 s1 s2
    refine ⟨⟨fun pins s σ H vs us Q I r ⟨hl, q⟩ => ?_⟩, ?_, ?_⟩
    · cases vs with
      | nil => cases hl
      | cons v vs => exact (pgs_cons g i1 rfl).run pins s σ H (v :: vs) us Q I r ⟨v, vs, rfl, by simpa using hl, q⟩
    · show (assignEach es X.env).length + 1 = _
      rw [i2]; rfl
    · show List.findIdx? (·.1) ((false, assign (.Name p.1 pos) X.env) :: assignEach es X.env) = none
      rw [List.findIdx?_cons, i3]; rfl
theorem tg_ok {X : Cx} {F0 H0 : Hp} {O : List Nat} {tg : Expr} {tup : Bool} {l : List (Str × Nat)} (hN : X.N = N) (nd : N.Nodup) (hc : X.calm = true) (h : tgIx N tg = some (tup, l))
    (hs : ∀ p ∈ l, Loc X.env.scope p.1 ∧ (X.fn p.1 = true ∨ X.env.scope.names.lookup p.1 = some .local)) (ho : ∀ p ∈ l, p.2 ∉ O) : PG X tg (xG X F0 H0 O tup (l.map (·.2))) := by
  cases tg with
  | Name x pos =>
    obtain ⟨i, e1, h⟩ := obind (show (ixOf N x >>= fun i => if okName x then some (false, [(x, i)]) else none) = some (tup, l) from h)
    obtain ⟨h2, h3⟩ := ite_some h
    cases h3
    obtain ⟨s1, s2⟩ := hs (x, i) (by simp)
    subst hN
    exact pg_nameX (pg_name nd (ixOf_get e1) s1 s2) (ho (x, i) (by simp))
  | Tuple es kk pos =>
    obtain ⟨l', e1, h⟩ := obind (show (namesIx N es >>= fun l => some (true, l)) = some (tup, l) from h)
    cases h
    obtain ⟨h1, h2, h3⟩ := pg_list hN nd (namesIx_get e1) hs
    exact pg_tupX hc h1 (fun i hi => by
      obtain ⟨p, hp, rfl⟩ := List.mem_map.mp hi
      exact ho p hp) h2 h3
  | _ => cases h
/-- in a comprehension's block -/
theorem blk_store {X : Cx} {sc scope : Scope} (hs : X.env.scope = sc) {x : Str} (h : isLoc scope x = true) (s : Shared) (H : Hp) (C : Addr) (cl : List (Str × Addr)) (fp : List Addr) :
    Loc (X.blk s H scope (compEnvC scope cl C X.env) fp).env.scope x ∧ ((X.blk s H scope (compEnvC scope cl C X.env) fp).fn x = true ∨ (X.blk s H scope (compEnvC scope cl C X.env) fp).env.scope.names.lookup x = some .local) := by
  have e : (X.blk s H scope (compEnvC scope cl C X.env) fp).env.scope = relS scope X.env.scope := rfl
  rw [e]
  unfold isLoc at h
  split at h
  · rename_i z
    have : (relS scope X.env.scope).names.lookup x = some .local := lookup_relS_keep (by decide) z
    exact ⟨.inl this, .inr this⟩
  · rename_i z
    have : (relS scope X.env.scope).names.lookup x = some .cell := lookup_relS_keep (by decide) z
    refine ⟨.inr this, .inl ?_⟩
    show (scope.names.lookup x == some .cell) = true
    rw [z]; rfl
  · cases h
/-- what is walked -/
theorem compI_ok {X : Cx} {W : WX} {F0 H0 : Hp} {O : List Nat} {sc : Scope} {c : Bool} {tg e : Expr} {ce : Bool → Expr → Option (Env → Res D)} {src : Env → Res (List D)} (o : XOk X G N sc k fn)
    (ih : ∀ esc e f, ce esc e = some f → Snd G X W F0 H0 O esc e f) (h : compI G ce sc c (isTup tg) e = some src) : PI X tg e (xI X W F0 H0 O c src) := by
  have seq : (ce (!c) e).map cSeq = some src → PI X tg e (xI X W F0 H0 O c src) := fun h => by
    obtain ⟨f, e1, rfl⟩ := Option.map_eq_some_iff.mp h
    cases c with
    | true => exact pi_seqC (ih _ _ _ e1).read
    | false => exact pi_seqF ((ih _ _ _ e1).kept rfl)
  have tgt : isTup tg = true → ∃ es kk p, tg = .Tuple es kk p := fun h => by
    cases tg <;> first | exact ⟨_, _, _, rfl⟩ | cases h
  unfold compI at h
  split at h
  · rename_i x p args pos
    split at h
    · rename_i hcond
      simp only [Bool.and_eq_true, Bool.or_eq_true, beq_iff_eq] at hcond
      obtain ⟨⟨⟨⟨h1, h2⟩, h3⟩, h4⟩, h5⟩ := hcond
      have hg := isGl_gl o.sc h1
      have hm := o.bis x h2
      split at h
      · rename_i a hx
        have ex : x = "range" := by simpa using hx
        subst ex
        obtain ⟨f, e1, rfl⟩ := Option.map_eq_some_iff.mp h
        rw [List.all_cons, List.all_nil, Bool.and_true] at h3
        exact pi_rng1 hg hm (pa_consE ((ih _ _ _ e1).kept rfl) pa_nilE (starEach_ns h3 _ _)) (starEach_ns h3 _ _)
      · rename_i a b hx
        have ex : x = "range" := by simpa using hx
        subst ex
        obtain ⟨f, e1, h⟩ := obind h
        obtain ⟨f2, e2, h⟩ := obind h
        cases h
        simp only [List.all_cons, List.all_nil, Bool.and_true, Bool.and_eq_true] at h3
        exact pi_rng2 hg hm (pa_consE ((ih _ _ _ e1).kept rfl) (pa_consE ((ih _ _ _ e2).kept rfl) pa_nilE (starEach_ns h3.2 _ _)) (starEach_ns h3.1 _ _)) (by rw [starEach_ns h3.1, starEach_ns h3.2]; rfl) (starEach_ns h3.2 _ _)
      · rename_i a hx hy
        have ex : x = "enumerate" := by simpa using hy
        subst ex
        obtain ⟨ht, h⟩ := ite_some h
        obtain ⟨es, kk, tp, rfl⟩ := tgt ht
        obtain ⟨f, e1, rfl⟩ := Option.map_eq_some_iff.mp h
        rw [List.all_cons, List.all_nil, Bool.and_true] at h3
        exact pi_enumX hg hm (pa_consE ((ih _ _ _ e1).kept rfl) pa_nilE (starEach_ns h3 _ _)) (starEach_ns h3 _ _)
      · rename_i a b hx hy
        have n1 : x ≠ "range" := by simpa using hx
        have n2 : x ≠ "enumerate" := by simpa using hy
        have ex : x = "zip" := by
          rcases h5 with (h5 | h5) | h5
          · exact absurd h5 n1
          · exact absurd h5 n2
          · exact h5
        subst ex
        obtain ⟨ht, h⟩ := ite_some h
        obtain ⟨es, kk, tp, rfl⟩ := tgt ht
        obtain ⟨f, e1, h⟩ := obind h
        obtain ⟨f2, e2, h⟩ := obind h
        cases h
        simp only [List.all_cons, List.all_nil, Bool.and_true, Bool.and_eq_true] at h3
        exact pi_zipX hg hm (pa_consE ((ih _ _ _ e1).kept rfl) (pa_consE ((ih _ _ _ e2).kept rfl) pa_nilE (starEach_ns h3.2 _ _)) (starEach_ns h3.1 _ _)) (starEach_ns h3.1 _ _) (starEach_any (by simp [h3.2]) _ _)
      · cases h
    · exact seq h
  · exact seq h
/-- the parts of a comprehension -/
structure LcP (G : GT) (X : Cx) (W : WX) (F0 H0 : Hp) (O : List Nat) (elt tg iter : Expr) (ifs : List Expr) (scope : Scope) (f : Env → Res D) : Prop where
  ex : ∃ (own : List (Str × Nat)) (tup : Bool) (src : Env → Res (List D)) (tt : Env → Res Bool) (fe : Env → Res D), f = cComp (own.map (·.2)) tup (own.map (·.2)) src tt fe ∧ PI X tg iter (xI X W F0 H0 O true src) ∧ BlkOk X.N X.env.scope scope own ∧
    (∀ s H C cl fp, PG (X.blk s H scope (compEnvC scope cl C X.env) fp) tg (xG X F0 H0 O tup (own.map (·.2)))) ∧ (∀ s H C cl fp, PTs (X.blk s H scope (compEnvC scope cl C X.env) fp) ifs (tT X.K X.mg noW F0 H0 O tt)) ∧
    (∀ s H C cl fp, PE (X.blk s H scope (compEnvC scope cl C X.env) fp) elt (tE X.K X.mg noW F0 H0 O fe)) ∧ notSet iter = true
theorem lc_parts {n : Nat} {X : Cx} {W : WX} {F0 H0 : Hp} {sc : Scope} {O : List Nat} {esc : Bool} {elt tg iter : Expr} {ifs : List Expr} {scope : Scope} {pos : Pos} {f : Env → Res D} (o : XOk X G N sc k fn) (tk : Takes X W)
    (ih : ∀ (X : Cx) (W : WX) (F0 H0 : Hp) (sc : Scope) (O : List Nat) (esc : Bool) (e : Expr) (f : Env → Res D), XOk X G N sc k fn → Takes X W → compE fn G N n sc O esc e = some f → Snd G X W F0 H0 O esc e f)
    (h : compE fn G N (n + 1) sc O esc (.ListComp elt [⟨tg, iter, ifs, 0⟩] scope pos) = some f) : LcP G X W F0 H0 O elt tg iter ifs scope f := by
  simp only [compE] at h
  replace h := (ite_some h).2
  obtain ⟨⟨tup, own⟩, e1, h⟩ := obind h
  obtain ⟨src, e2, h⟩ := obind h
  obtain ⟨cond, e3, h⟩ := obind h
  obtain ⟨fe, e4, h⟩ := obind h
  obtain ⟨hc, h⟩ := ite_some h
  cases h
  simp only [Bool.and_eq_true, List.all_eq_true, Bool.not_eq_true', List.contains_eq_mem, decide_eq_false_iff_not] at hc
  obtain ⟨⟨hb, hl⟩, hns⟩ := hc
  refine ⟨own, tup, src, cond, fe, rfl, compI_ok o (fun esc e f z => ih X W F0 H0 sc O esc e f o tk z) e2, ?_, fun s H C cl fp => ?_, fun s H C cl fp => ?_, fun s H C cl fp => ?_, hns⟩
  · rw [o.n, o.sc]; exact blkOk_by hb
  · exact tg_ok (X := X.blk s H scope (compEnvC scope cl C X.env) fp) o.n o.nd o.calm e1 (fun p hp => blk_store o.sc (hl p hp).1 s H C cl fp) fun p hp => (hl p hp).2
  · have ob := o.blk scope s H C cl fp
    cases ifs with
    | nil =>
      cases e3
      exact ⟨fun pins s' σ H' Q I ⟨ρ, F, rel, q⟩ => pts_nil.run pins s' σ H' Q I (q F H' (Gr.refl rel.sfh))⟩
    | cons c r =>
      cases r with
      | nil =>
        obtain ⟨hi, e3⟩ := ite_some e3
        obtain ⟨fc, e5, rfl⟩ := Option.map_eq_some_iff.mp e3
        exact pts_one ((ih _ noW F0 H0 _ O true c fc ob takes0 e5).test hi rfl)
      | cons _ _ => cases e3
  · exact (ih _ noW F0 H0 _ O true elt fe (o.blk scope s H C cl fp) takes0 e4).kept rfl
theorem LcP.own {X : Cx} {W : WX} {F0 H0 : Hp} {O : List Nat} {elt tg iter : Expr} {ifs : List Expr} {scope : Scope} {f : Env → Res D} {pos : Pos} (hc : X.calm = true) (hN : X.N.Nodup) (p : LcP G X W F0 H0 O elt tg iter ifs scope f) :
    PE X (.ListComp elt [⟨tg, iter, ifs, 0⟩] scope pos) (xO X W F0 H0 O f) := by
  obtain ⟨own, tup, src, tt, fe, rfl, h1, h2, h3, h4, h5, h6⟩ := p.ex
  exact PE.of (pe_lc hc hN h1 h2 h3 h4 h5 (folded_ns h6 _)) (lc_rd fun i hi => hi)
theorem compE_ok : ∀ (n : Nat) (X : Cx) (W : WX) (F0 H0 : Hp) (sc : Scope) (O : List Nat) (esc : Bool) (e : Expr) (f : Env → Res D), XOk X G N sc k fn → Takes X W → compE fn G N n sc O esc e = some f → Snd G X W F0 H0 O esc e f := by
  intro n
  induction n with
  | zero => intro X W F0 H0 sc O esc e f _ _ h; cases h
  | succ n ih =>
    intro X W F0 H0 sc O esc e f o tk h
    have hu := o.hu
    have hc := o.calm
    have ih' := fun esc e f z => ih X W F0 H0 sc O esc e f o tk z
    cases e with
    | Name x pos =>
      simp only [compE] at h
      obtain ⟨hk, h⟩ := ite_some h
      obtain ⟨d1, d2, d3⟩ := okName_dbg hk
      split at h
      · rename_i hv
        obtain ⟨i, e1, h⟩ := obind h
        split at h
        · cases h
        · rename_i he
          cases h
          have hN : X.N[i]? = some x := by rw [o.n]; exact ixOf_get e1
          have vis : Vis X.env.scope x := by rw [o.sc]; exact isVis_vis hv
          refine ⟨fun z => ?_, pe_slotR hN vis d1 d2, fun _ z => ?_, fun z => (by cases z), fun z => by cases z⟩
          · have : i ∉ O := by
              subst z
              simpa using he
            exact pe_slotE this hN vis d1 d2
          · have : i ∉ O := by
              subst z
              simpa using he
            exact PT.of (pt_val (pe_slotE this hN vis d1 d2) (plain_test rfl _)) tB_of
      · obtain ⟨hgl, h⟩ := ite_some h
        obtain ⟨d, e1, rfl⟩ := Option.map_eq_some_iff.mp h
        obtain ⟨u, v, h1, h2, h3⟩ := o.consts x d e1
        exact Snd.of_e rfl rfl (pe_const (isGl_gl o.sc hgl) h1 h2 h3 d1)
    | Constant c kk pos =>
      cases c <;> simp only [compE] at h <;> cases h
      · exact Snd.of_e rfl rfl pe_litN
      · exact Snd.of_e rfl rfl pe_litB
      · exact Snd.of_e rfl rfl pe_litI
      · exact Snd.of_e rfl rfl pe_litS
    | UnaryOp op a pos =>
      cases op <;> simp only [compE] at h <;> first | cases h | skip
      · obtain ⟨hi, h⟩ := ite_some h
        obtain ⟨fa, e1, rfl⟩ := Option.map_eq_some_iff.mp h
        have s := ih' true a fa e1
        exact Snd.of_et rfl rfl (pe_notE (s.kept rfl)) fun _ => pt_notT (s.test hi rfl)
      · obtain ⟨fa, e1, rfl⟩ := Option.map_eq_some_iff.mp h
        exact Snd.of_e rfl rfl (PE.of (pe_un un_neg (ih' false a fa e1).read) negD_ok)
    | BinOp a op b pos =>
      simp only [compE] at h
      obtain ⟨g, e1, h⟩ := obind h
      obtain ⟨fa, e2, h⟩ := obind h
      obtain ⟨fb, e3, h⟩ := obind h
      cases h
      obtain ⟨r, h1, h2⟩ := opOf_ok (X := X) e1
      exact Snd.of_o rfl (pe_bin h1 h2 (ih' _ _ _ e2).read (ih' _ _ _ e3).read)
    | BoolOp op vs pos =>
      cases vs with
      | nil => simp only [compE] at h; cases h
      | cons a r =>
        cases r with
        | nil =>
          simp only [compE] at h
          obtain ⟨hi, h⟩ := ite_some h
          have s := ih' true a f h
          have t := s.test hi rfl
          cases op with
          | And => exact Snd.of_w rfl (pe_one (s.kept rfl)) (pw_and1 t) (pw_and1 t).pt
          | Or => exact Snd.of_w rfl (pe_one (s.kept rfl)) (pw_or1 t) (pw_or1 t).pt
        | cons b r =>
          simp only [compE] at h
          obtain ⟨hi, h⟩ := ite_some h
          obtain ⟨fa, e1, h⟩ := obind h
          obtain ⟨fb, e2, h⟩ := obind h
          have s := ih' true a fa e1
          have s2 := ih' true (.BoolOp op (b :: r) pos) fb e2
          have t := s.test hi rfl
          cases op with
          | And =>
            cases h
            have w := pw_andT t (s2.pw rfl rfl)
            exact Snd.of_w rfl (pe_andE rfl (s.kept rfl) (s2.kept rfl)) w w.pt
          | Or =>
            cases h
            have w := pw_orT t (s2.pw rfl rfl)
            exact Snd.of_w rfl (pe_orE rfl (s.kept rfl) (s2.kept rfl)) w w.pt
    | Compare a ops bs pos =>
      simp only [compE] at h
      split at h
      · rename_i op b
        obtain ⟨hb, h⟩ := ite_some h
        obtain ⟨g, e1, h⟩ := obind h
        obtain ⟨fa, e2, h⟩ := obind h
        obtain ⟨fb, e3, h⟩ := obind h
        cases h
        obtain ⟨r, h1, h2⟩ := cmpOf_ok (X := X) hu e1
        exact Snd.of_et rfl rfl (PE.e_of_o (pe_cmp2 h1 h2 (ih' _ _ _ e2).read (ih' _ _ _ e3).read (mark_ns hb))) fun _ => pt_cmp2 h1 h2 (ih' _ _ _ e2).read (ih' _ _ _ e3).read (mark_ns hb)
      · rename_i op op' b c
        obtain ⟨hb, h⟩ := ite_some h
        rw [Bool.and_eq_true] at hb
        obtain ⟨g, e1, h⟩ := obind h
        obtain ⟨g', e1', h⟩ := obind h
        obtain ⟨fa, e2, h⟩ := obind h
        obtain ⟨fb, e3, h⟩ := obind h
        obtain ⟨fc, e4, h⟩ := obind h
        cases h
        obtain ⟨r, h1, h2⟩ := cmpOf_ok (X := X) hu e1
        obtain ⟨r', h1', h2'⟩ := cmpOf_ok (X := X) hu e1'
        exact Snd.of_et rfl rfl (pe_chainE h1 h1' h2 h2' (ih' _ _ _ e2).read (ih' _ _ _ e3).read (ih' _ _ _ e4).read (lastMark_ns hb.2)) fun _ => pt_chainT h1 h1' h2 h2' (ih' _ _ _ e2).read (ih' _ _ _ e3).read (ih' _ _ _ e4).read (lastMark_ns hb.2)
      · cases h
    | IfExp c a b pos =>
      simp only [compE] at h
      obtain ⟨hi, h⟩ := ite_some h
      obtain ⟨fc, e1, h⟩ := obind h
      obtain ⟨fa, e2, h⟩ := obind h
      obtain ⟨fb, e3, h⟩ := obind h
      cases h
      exact Snd.of_et rfl rfl (pe_ifE ((ih' _ _ _ e1).test hi rfl) ((ih' _ _ _ e2).kept rfl) ((ih' _ _ _ e3).kept rfl)) fun z => by cases z
    | Tuple es kk pos =>
      simp only [compE] at h
      obtain ⟨hi, h⟩ := ite_some h
      obtain ⟨fs, e1, rfl⟩ := Option.map_eq_some_iff.mp h
      exact Snd.of_e rfl rfl (pe_tupE (args_e (fun e f z => ih' true e f z) hi e1))
    | List es pos =>
      simp only [compE] at h
      obtain ⟨hi, h⟩ := ite_some h
      obtain ⟨fs, e1, rfl⟩ := Option.map_eq_some_iff.mp h
      exact Snd.of_o rfl (pe_lstO (args_e (fun e f z => ih' true e f z) hi e1))
    | Subscript a sl pos =>
      cases sl with
      | Slice l hh st p2 =>
        simp only [compE] at h
        split at h
        · rename_i heq
          cases heq
          obtain ⟨fa, e1, rfl⟩ := Option.map_eq_some_iff.mp h
          exact Snd.of_o rfl (pe_revO (ih' _ _ _ e1).read)
        · rename_i heq
          cases heq
          obtain ⟨fa, e1, h⟩ := obind h
          obtain ⟨fl, e2, h⟩ := obind h
          obtain ⟨fh, e3, h⟩ := obind h
          cases h
          have part : ∀ {l : Option Expr} {fl : Option (Env → Res D)}, (match l with
              | none => some none
              | some e => (compE fn G N n sc O false e).map some) = some fl → PO X l (xPart X W F0 H0 O (cPart fl)) := by
            intro l fl z
            cases l with
            | none => cases z; exact po_noneX
            | some e =>
              obtain ⟨g, z1, rfl⟩ := Option.map_eq_some_iff.mp z
              exact po_someX (ih' _ _ _ z1).read
          exact Snd.of_o rfl (pe_slO (ih' _ _ _ e1).read (part e2) (part e3))
        · cases h
        · rename_i z; exact absurd rfl (z _ _ _ _)
      | _ =>
        simp only [compE] at h
        obtain ⟨fa, e1, h⟩ := obind h
        obtain ⟨fb, e2, h⟩ := obind h
        cases h
        exact Snd.of_e rfl rfl (pe_ixE (by have := hu; omega) (ih' _ _ _ e1).read (ih' _ _ _ e2).read (plainIx_ns rfl))
    | Call fx args kws pos =>
      cases fx with
      | Name x p =>
        cases kws with
        | cons _ _ => simp only [compE] at h; cases h
        | nil =>
          simp only [compE] at h
          obtain ⟨hcnd, h⟩ := ite_some h
          simp only [Bool.and_eq_true] at hcnd
          obtain ⟨⟨hgl, hk⟩, hns⟩ := hcnd
          obtain ⟨d1, d2, d3⟩ := okName_dbg hk
          have hg := isGl_gl o.sc hgl
          split at h
          · rename_i i hi
            cases args with
            | nil => cases h
            | cons a r =>
              obtain ⟨fs, e1, h⟩ := obind h
              cases h
              obtain ⟨f', fd, ps, m1, m2, m3, m4, m5⟩ := o.fns x i hi
              have hns' := hns
              rw [List.all_cons, Bool.and_eq_true] at hns
              cases hfr : G.frs.contains x with
              | false =>
                rw [hfr] at m4
                refine Snd.of_e ?_ rfl (PE.of (pe_callS (E := WE W) m4 o.room hg m1 m2 m3 (fun σ => passAt tk σ) (args_e (fun e f z => ih' true e f z) hns' e1) d1 (starEach_ns hns.1 _ _) (starEach_any hns.2 _ _)) (call_rd m5))
                show (if (G.fns.lookup x).isSome = true then G.frs.contains x else !(x == "isinstance")) = false
                rw [hi, hfr]; rfl
              | true =>
                rw [hfr] at m4
                exact Snd.of_o rfl (PE.of (pe_callS (E := WE W) m4 o.room hg m1 m2 m3 (fun σ => passAt tk σ) (args_e (fun e f z => ih' true e f z) hns' e1) d1 (starEach_ns hns.1 _ _) (starEach_any hns.2 _ _)) (call_rdO m5))
          · rename_i hi
            obtain ⟨hbi, h⟩ := ite_some h
            have hm := o.bis x hbi
            split at h
            · rename_i a t p2 hx _ _
              have hh := h
              have ex : x = "isinstance" := by simpa using hx
              subst ex
              obtain ⟨T, e1, h⟩ := obind hh
              obtain ⟨fa, e2, h⟩ := obind h
              obtain ⟨h2, h⟩ := ite_some h
              cases h
              simp only [Bool.and_eq_true] at h2
              obtain ⟨⟨g2, k2⟩, b2⟩ := h2
              obtain ⟨q1, q2, q3⟩ := okName_dbg k2
              obtain ⟨t1, t2⟩ := tyName_ok e1
              simp only [List.all_cons, Bool.and_eq_true] at hns
              refine Snd.of_e (by show (if (G.fns.lookup ("isinstance" : Str)).isSome = true then G.frs.contains ("isinstance" : Str) else !(("isinstance" : Str) == ("isinstance" : Str))) = false; rw [hi]; rfl) rfl ?_
              exact pe_isiE t1 t2 hg hm (isGl_gl o.sc g2) (o.bis t b2) q3 q1 (ih' _ _ _ e2).read (starEach_ns hns.1 _ _)
            · cases h
            · rename_i a r _ _ _
              have hh := h
              obtain ⟨fs, e1, h⟩ := obind hh
              have hns' := hns
              rw [List.all_cons, Bool.and_eq_true] at hns
              have ha := args_r (X := X) (W := W) (F0 := F0) (H0 := H0) (O := O) (fun e f z => ih' false e f z) hns' e1
              split at h
              · rename_i g e2
                cases h
                obtain ⟨id, r', q1, q2, q3⟩ := biOf_ok (X := X) hc e2
                exact Snd.of_o rfl (pe_biO q1 q2 hg hm q3 ha d3 d1 (starEach_ns hns.1 _ _) (starEach_any hns.2 _ _))
              · split at h
                · rename_i g e2
                  cases h
                  obtain ⟨id, r', q1, q2, q3⟩ := tyOf_ok (X := X) hc e2
                  exact Snd.of_o rfl (pe_tyO q1 q2 hg hm q3 ha d3 d1 (starEach_ns hns.1 _ _) (starEach_any hns.2 _ _))
                · cases h
      | Attribute o m apos =>
        cases args with
        | cons _ _ => simp only [compE] at h; cases h
        | nil =>
          cases kws with
          | cons _ _ => simp only [compE] at h; cases h
          | nil =>
            simp only [compE] at h
            obtain ⟨hcnd, h⟩ := ite_some h
            rw [Bool.and_eq_true] at hcnd
            obtain ⟨g, e1, h⟩ := obind h
            obtain ⟨fo, e2, h⟩ := obind h
            cases h
            obtain ⟨id, r, q1, q2, q3, q4⟩ := meth0_ok (X := X) e1
            exact Snd.of_o rfl (pe_m0O q1 q2 q3 q4 (ih' _ _ _ e2).read hcnd.1 hcnd.2)
      | _ => simp only [compE] at h; cases h
    | Dict ks vs pos =>
      cases ks with
      | cons _ _ => simp only [compE] at h; cases h
      | nil =>
        cases vs with
        | cons _ _ => simp only [compE] at h; cases h
        | nil =>
          simp only [compE] at h
          cases h
          exact Snd.of_o rfl pe_dictO
    | ListComp elt gs scope pos =>
      cases gs with
      | nil => simp only [compE] at h; cases h
      | cons g r =>
        obtain ⟨tg, iter, ifs, asy⟩ := g
        cases r with
        | cons _ _ => simp only [compE] at h; cases h
        | nil =>
          have ha : asy = 0 := by
            simp only [compE] at h
            exact (ite_some h).1
          subst ha
          exact Snd.of_o rfl ((lc_parts o tk ih h).own hc (o.n ▸ o.nd))
    | _ => simp only [compE] at h; cases h
end
end Ev

set_option Elab.async false
set_option linter.all false
set_option maxRecDepth 100000
set_option maxHeartbeats 8000000
/-! The evaluator, part K: statements compiled, and that they are right. -/
namespace Ev
open PySem L2

/-! ### sets of slots -/
def ins (i : Nat) (O : List Nat) : List Nat := if O.contains i then O else i :: O
def uni (A B : List Nat) : List Nat := A.foldr ins B
def sbs (A B : List Nat) : Bool := A.all B.contains
theorem sbs_ok {A B : List Nat} (h : sbs A B = true) : ∀ k ∈ A, k ∈ B := fun k hk => by
  have := List.all_eq_true.mp h k hk
  simpa using this
/-- the slots that are changed in place behind here, ahead of their next store -/
def live (N : List Str) : Nat → List Stmt → List Nat → List Nat → List Nat
  | 0, _, O1, _ => O1
  | _, [], O1, _ => O1
  | n + 1, s :: r, O1, Ob =>
    let M := live N n r O1 Ob
    match s with
    | .Expr (.Call (.Attribute (.Name x _) _ _) _ _ _) _ => (match ixOf N x with
      | some i => ins i M
      | none => M)
    | .Assign [.Name x _] _ _ => (match ixOf N x with
      | some i => M.filter (· != i)
      | none => M)
    | .Assign [.Subscript (.Name x _) _ _] _ _ => (match ixOf N x with
      | some i => ins i M
      | none => M)
    | .If _ a b _ => uni (live N n a M Ob) (live N n b M Ob)
    | .For _ _ body _ _ =>
      let L := uni (live N n body M M) M
      uni (live N n body L L) L
    | .While _ body _ _ =>
      let L := uni (live N n body M M) M
      uni (live N n body L L) L
    | .Return _ _ => []
    | .Break _ => Ob
    | .Continue _ => Ob
    | _ => M
/-- the order of stores of a pair -/
def isFunK : ScopeKind → Bool
  | .function => true
  | _ => false
def locAt (sc : Scope) (l : Nat) : Expr → Option Str
  | .Name x pos => if sc.names.lookup x == some .local && pos.line == l then some x else none
  | _ => none
def notLC : Expr → Bool
  | .ListComp _ _ _ _ => false
  | .SetComp _ _ _ _ => false
  | .DictComp _ _ _ _ _ => false
  | _ => true
def notTup : Expr → Bool
  | .Tuple _ _ _ => false
  | _ => true
theorem sw_ns {e : Expr} (h : notLC e = true) (t : Option Expr) (l : Nat) (env : PySem.Env) : swapsWith e t l env = pure false := by
  cases e <;> first | rfl | (cases h; done)
theorem sw_tup {e : Expr} {es : List Expr} {kk p} (l : Nat) (env : PySem.Env) : swapsWith e (some (.Tuple es kk p)) l env = pure false := by
  cases e <;> rfl
theorem sw_sub {e o i : Expr} {p} (l : Nat) (env : PySem.Env) : swapsWith e (some (.Subscript o i p)) l env = pure false := by
  cases e <;> rfl
theorem swst_nt {ts : List Expr} {e : Expr} (h : notTup e = true) (env : PySem.Env) : swappedStores ts e env = pure none := by
  unfold swappedStores
  cases e <;> first | (cases h; done) | (split <;> first | (rename_i z; split at z <;> first | (rename_i w; cases w; done) | (cases z; done)) | rfl)
def starred : Expr → Bool
  | .Starred _ _ => true
  | _ => false
theorem star_ns (e : Expr) : notStar e = true → (match e with | .Starred .. => true | _ => false) = false := by
  intro h; cases e <;> first | rfl | (cases h; done)
theorem sw_par {x y : Str} {a b : Expr} {px py pt pt2 : Pos} {kt k2} {env : PySem.Env} (hk : isFunK env.scope.kind = true) (hx : env.scope.names.lookup x = some .local) (hy : env.scope.names.lookup y = some .local) (hl : (py.line == px.line) = true) (hxy : x ≠ y)
    (ha : notStar a = true) (hb : notStar b = true) (h1 : (foldedForSure 8 a && foldedForSure 8 b) = false) (h2 : (constantsAlone 8 a && constantsAlone 8 b) = false) :
    swappedStores [.Tuple [.Name x px, .Name y py] kt pt] (.Tuple [a, b] k2 pt2) env = pure (some [x, y]) := by
  have hb' : env.blockKind = .function := by
    unfold Env.blockKind
    unfold isFunK at hk
    split at hk
    · rename_i z; rw [z]; rfl
    · cases hk
  have kx : env.kindOf x = some .local := hx
  have ky : env.kindOf y = some .local := hy
  have hyx : (y == x) = false := by simpa using fun z => hxy z.symm
  have hxyb : (x == y) = false := by simpa using hxy
  have sa := star_ns a ha
  have sb := star_ns b hb
  have hp : (px.line == px.line) = true := by simp
  unfold swappedStores
  simp only [List.length_cons, List.length_nil, hb', List.any_cons, List.any_nil, sa, sb, List.filterMap_cons, List.filterMap_nil, kx, ky, List.all_cons, List.all_nil, Bool.and_true, h1, h2, List.head?_cons, Option.map_some, Option.getD_some, Expr.pos, hl, hp, Bool.or_false]
  simp [List.eraseDups_cons, hyx, hxyb]
  intro z
  rcases z with z | z
  · cases a <;> first | (cases z; done) | (cases ha; done)
  · cases b <;> first | (cases z; done) | (cases hb; done)
theorem sw_fold {ts vs : List Expr} {kt pt k2 pt2} {env : PySem.Env} (h : vs.all (foldedForSure 8) = true) : swappedStores [.Tuple ts kt pt] (.Tuple vs k2 pt2) env = pure none := by
  unfold swappedStores
  simp only [h, if_true, reduceIte]
  repeat' split
  all_goals first | rfl | (rename_i z; exact absurd rfl z)
/-! ### owners claimed -/
section
variable {K : PySem.W.Frag} {F0 H0 F H F' H' : Hp} {O : List Nat} {ρ : Env} {σ : St}
theorem Rel.claim (r : Rel K F0 H0 O ρ σ F H) (i : Nat) : Rel K F0 H0 (i :: O) (ρ.set i none) (σ.set i none) F H := by
  have r' := r.clear i
  have no : ∀ {d : D}, (ρ.set i none)[i]? = some (some d) → False := fun {d} h => by
    by_cases hl : i < ρ.length
    · rw [List.getElem?_set_self hl] at h; cases h
    · rw [List.getElem?_eq_none (by simp; omega)] at h; cases h
  refine ⟨r'.len, r'.sfh, r'.s0, r'.sf0, r'.nw, fun j d h1 h2 => r'.fz j d (fun z => h1 (List.mem_cons_of_mem _ z)) h2, fun j d h1 h2 => ?_, fun j k d e a h1 h2 h3 h4 h5 h6 h7 h8 h9 => ?_⟩
  · rcases List.mem_cons.mp h1 with z | z
    · subst z; exact (no h2).elim
    · exact r'.ow j d z h2
  · rcases List.mem_cons.mp h1 with z | z
    · subst z; exact (no h4).elim
    · rcases List.mem_cons.mp h2 with w | w
      · subst w; exact (no h5).elim
      · exact r'.ap j k d e a z w h3 h4 h5 h6 h7 h8 h9
theorem Rel.own1 (r : Rel K F0 H0 O ρ σ F H) (g : Gr F H F' H') (i : Nat) {d : D} {v : V} (w : Owv K H F' H' v d) : Rel K F0 H0 (i :: O) (ρ.set i (some d)) (σ.set i (some v)) F' H' := by
  have := (r.claim i).setO g (List.mem_cons_self) w
  rwa [List.set_set, List.set_set] at this
end
section
variable {X : Cx} {W : WX} {F0 H0 : Hp} {O O1 Ob : List Nat} {fr : Bool} {pos : Pos}
/-- name = e, the name owned from here on -/
theorem own1_rd {i : Nat} {f : Env → Res D} (σ : St) (H : Hp) (E : Ends) (h : xS X W F0 H0 O (i :: O) Ob fr (cAsg false [i] f) E σ H) : tAsg (xO X W F0 H0 O f) (gName i) E σ H := by
  obtain ⟨ρ, F, rel, q⟩ := h
  exact ⟨ρ, F, rel, (FQ.of rel.s0 q).imp fun d _ q1 v F' H' g w => q1 _ F' H' g.ff (rel.own1 g i w)⟩
theorem PS.after {st : Stmt} {f : Cmd} {O2 : List Nat} (h : PS X st (xS X W F0 H0 O O2 Ob fr f)) (i : ∀ k ∈ O1, k ∈ O2) : PS X st (xS X W F0 H0 O O1 Ob fr f) :=
  PS.of h fun E σ H ⟨ρ, F, rel, q⟩ => ⟨ρ, F, rel, q.ends i⟩
theorem PS.both {st : Stmt} {f : Cmd} {O' O2 : List Nat} (h : PS X st (xS X W F0 H0 O' O2 Ob fr f)) (a : sbs O' O = true) (b : sbs O1 O2 = true) : PS X st (xS X W F0 H0 O O1 Ob fr f) :=
  PS.after (PS.owners h (sbs_ok a)) (sbs_ok b)
end
end Ev

set_option Elab.async false
set_option linter.all false
set_option maxRecDepth 100000
set_option maxHeartbeats 8000000
/-! The evaluator, part L: statements compiled. -/
namespace Ev
open PySem L2

def isLoc1 (sc : Scope) (x : Str) : Bool := match sc.names.lookup x with
  | some .local => true
  | _ => false
theorem isLoc1_ok {sc : Scope} {x : Str} (h : isLoc1 sc x = true) : sc.names.lookup x = some .local := by
  unfold isLoc1 at h
  split at h
  · assumption
  · cases h
/-- a value that is no list and no dict -/
def cFlat (f : Env → Res D) : Env → Res D := fun ρ => do
  let d ← f ρ
  if isC d = true then .bad else .ok d
def cWhile (c : Env → Res Bool) (body : Cmd) : Cmd := whileL c body line
/-- is x stored by the comprehension behind its value -/
def lcSw (sc : Scope) (x : Str) (px : Pos) : Expr → Bool
  | .ListComp e gs scope pos => isFunK sc.kind && isLoc1 sc x && px.line == pos.line && !(scope.names.any fun (n, k) => n == x && (k == .local || k == .cell))
  | _ => false
def compS (G : GT) (N : List Str) (sc : Scope) (fr : Bool) (ce : List Nat → Bool → Expr → Option (Env → Res D)) (cb : List Nat → List Nat → List Nat → List Stmt → Option Cmd) (lv : List Stmt → List Nat → List Nat → List Nat) (O O1 Ob : List Nat) : Stmt → Option Cmd
  | .Pass _ => if sbs O1 O = true then some cNext else none
  | .Break _ => if sbs Ob O = true then some cBrk else none
  | .Continue _ => if sbs Ob O = true then some cCnt else none
  | .Return none _ => some cRetN
  | .Return (some e) _ =>
    if fr = true then
      (match e with
      | .Name x _ => if (okName x && isVis sc x) = true then (do
        let i ← ixOf N x
        if O.contains i = true then some (cRet (cSlot i)) else none) else none
      | e => if freshE G e = true then (ce [] true e).map cRet else (ce [] true e).map fun f => cRet (cFlat f))
    else (ce [] true e).map cRet
  | .Expr (.Call (.Attribute (.Name x _) m apos) [v] [] cpos) _ =>
    if (m == "append" && okName x && isVis sc x && notStar v && apos.endLine == cpos.line) = true then (do
      let i ← ixOf N x
      let f ← ce (ins i O1) true v
      if sbs (ins i O1) O = true then some (cAppend i f) else none) else none
  | .Expr e _ => if (notLC e && sbs O1 O) = true then (ce O1 true e).map cDrop else none
  | .Assign [.Name x px] e _ => if (okName x && isLoc1 sc x && (notLC e || lcSw sc x px e)) = true then (do
      let i ← ixOf N x
      if O1.contains i = true then
        (if (freshE G e && sbs (O1.filter (· != i)) O && sbs O1 (i :: O1.filter (· != i))) = true then (ce (O1.filter (· != i)) true e).map fun f => cAsg false [i] f else none)
      else if sbs O1 O = true then (ce O1 true e).map fun f => cAsg false [i] f else none) else none
  | .Assign [.Tuple [.Name x px, .Name y py] kt pt] (.Tuple [a, b] k2 pt2) _ =>
    if (okName x && okName y && isLoc1 sc x && isLoc1 sc y && sbs O1 O && notStar a && notStar b && isFunK sc.kind && !(x == y)) = true then (do
      let i ← ixOf N x
      let j ← ixOf N y
      let f ← ce O1 true a
      let h ← ce O1 true b
      if (!O1.contains i && !O1.contains j && !(i == j)) = true then
        (if (py.line == px.line && !(foldedForSure 8 a && foldedForSure 8 b) && !(constantsAlone 8 a && constantsAlone 8 b)) = true then some (cPar [i, j] [f, h])
        else if (foldedForSure 8 a && foldedForSure 8 b) = true then some (cAsg true [i, j] (cTup [f, h])) else none) else none) else none
  | .Assign [.Tuple ts kt pt] e _ => if (sbs O1 O && notTup e) = true then (do
      let (tup, own) ← tgIx N (.Tuple ts kt pt)
      let f ← ce O1 true e
      if own.all (fun p => isLoc1 sc p.1 && !O1.contains p.2) = true then some (cAsg tup (own.map (·.2)) f) else none) else none
  | .Assign [.Subscript (.Name x _) k _] v _ => if (okName x && isVis sc x && notSl k) = true then (do
      let i ← ixOf N x
      let fv ← ce (ins i O1) true v
      let fk ← ce (ins i O1) false k
      if sbs (ins i O1) O = true then some (cSetI i fk fv) else none) else none
  | .If c a b _ => if notIf c = true then (do
      let fc ← ce O true c
      let fa ← cb O O1 Ob a
      let fb ← cb O O1 Ob b
      some (cIfS (cB fc) fa fb)) else none
  | .For tg iter body [] _ => do
      let (tup, own) ← tgIx N tg
      let L := uni (lv body O1 O1) O1
      let L := uni (lv body L L) L
      let src ← compI G (ce L) sc false (isTup tg) iter
      let fb ← cb L L L body
      if (sbs O1 L && sbs L O && own.all (fun p => isLoc1 sc p.1 && !L.contains p.2) && notSet iter) = true then some (cFor tup (own.map (·.2)) src fb) else none
  | .While c body [] _ => do
      let L := uni (lv body O1 O1) O1
      let L := uni (lv body L L) L
      let fc ← ce L true c
      let fb ← cb L L L body
      if (sbs O1 L && sbs L O && notIf c) = true then some (cWhile (cB fc) fb) else none
  | _ => none
section
variable (fn : Nat → List D → Res D) (G : GT) (N : List Str) (fr : Bool)
def compB : Nat → Scope → List Nat → List Nat → List Nat → List Stmt → Option Cmd
  | 0, _, _, _, _, _ => none
  | n + 1, sc, O, O1, Ob, ss => match ss with
    | [] => if sbs O1 O = true then some cNext else none
    | s :: r => do
      let a ← compS G N sc fr (fun O esc e => compE fn G N n sc O esc e) (fun O O1 Ob b => compB n sc O O1 Ob b) (fun b O1 Ob => live N n b O1 Ob) O (live N n r O1 Ob) Ob s
      let b ← compB n sc (live N n r O1 Ob) O1 Ob r
      some (cSeqS a b)
end
section
variable {G : GT} {N : List Str} {k : Nat} {fn : Nat → List D → Res D}
variable {X : Cx} {W : WX} {F0 H0 : Hp} {sc : Scope} {O O1 Ob : List Nat} {fr : Bool}
theorem lcSw_ok {x : Str} {px : Pos} {e : Expr} (hs : X.env.scope = sc) (h : (notLC e || lcSw sc x px e) = true) : notLC e = true ∨ ∃ elt gs scope pos, e = .ListComp elt gs scope pos ∧ ∀ l, swapsWith e (some (.Name x px)) l X.env = pure true := by
  rcases Bool.or_eq_true _ _ |>.mp h with h | h
  · exact .inl h
  · right
    unfold lcSw at h
    split at h
    · rename_i elt gs scope pos _
      simp only [Bool.and_eq_true, Bool.not_eq_true'] at h
      obtain ⟨⟨⟨h1, h2⟩, h3⟩, h4⟩ := h
      refine ⟨elt, gs, scope, pos, rfl, fun l => sw_true (hs ▸ ?_) (hs ▸ isLoc1_ok h2) h3 h4⟩
      unfold isFunK at h1
      split at h1
      · assumption
      · cases h1
    · cases h
theorem xO_of_xE {f : Env → Res D} (σ : St) (H : Hp) (Q : VK) (h : xE X W F0 H0 O f σ H Q) : xO X W F0 H0 O f σ H Q := by
  obtain ⟨ρ, F, r, q⟩ := h
  exact ⟨ρ, F, r, q.imp fun d _ k v F' H' g n => by
    obtain ⟨F2, g2, n2⟩ := n.dn g
    exact k v F2 H' g2 n2⟩
theorem lc_shape {n : Nat} {esc : Bool} {elt : Expr} {gs : List Comprehension} {scope : Scope} {pos : Pos} {f : Env → Res D} (h : compE fn G N (n + 1) sc O esc (.ListComp elt gs scope pos) = some f) : ∃ tg iter ifs, gs = [⟨tg, iter, ifs, 0⟩] := by
  cases gs with
  | nil => simp only [compE] at h; cases h
  | cons g r =>
    obtain ⟨tg, iter, ifs, asy⟩ := g
    cases r with
    | cons _ _ => simp only [compE] at h; cases h
    | nil =>
      have ha : asy = 0 := by
        simp only [compE] at h
        exact (ite_some h).1
      subst ha
      exact ⟨_, _, _, rfl⟩
/-- name = [.. for .. in ..] -/
theorem LcP.set {elt tg iter : Expr} {ifs : List Expr} {scope : Scope} {f : Env → Res D} {pos py spos : Pos} {i : Nat} {y : Str} (hc : X.calm = true) (hN : X.N.Nodup) (p : LcP G X W F0 H0 O elt tg iter ifs scope f)
    (hy : X.N[i]? = some y) (hyl : X.env.scope.names.lookup y = some .local) (hsw : swapsWith (.ListComp elt [⟨tg, iter, ifs, 0⟩] scope pos) (some (.Name y py)) spos.line X.env = pure true) :
    PS X (.Assign [.Name y py] (.ListComp elt [⟨tg, iter, ifs, 0⟩] scope pos) spos) (tAsg (xO X W F0 H0 O f) (gName i)) := by
  obtain ⟨own, tup, src, tt, fe, rfl, h1, h2, h3, h4, h5, h6⟩ := p.ex
  exact PS.of (ps_setLc hc hN hy hyl hsw h1 h2 h3 h4 h5 (folded_ns h6 _)) fun D σ H h => lc_rd (fun i hi => hi) σ H _ h
/-- name = e, by the reading that e has -/
theorem set_own {n : Nat} {e : Expr} {f : Env → Res D} {px pos : Pos} {i : Nat} {x : Str} (o : XOk X G N sc k fn) (tk : Takes X W) (h : compE fn G N n sc O true e = some f) (hi : N[i]? = some x) (hl : isLoc1 sc x = true) (hs : (notLC e || lcSw sc x px e) = true)
    (hf : freshE G e = true) : PS X (.Assign [.Name x px] e pos) (tAsg (xO X W F0 H0 O f) (gName i)) := by
  have hx : X.env.scope.names.lookup x = some .local := by rw [o.sc]; exact isLoc1_ok hl
  have hN : X.N[i]? = some x := by rw [o.n]; exact hi
  have nd : X.N.Nodup := by rw [o.n]; exact o.nd
  rcases lcSw_ok o.sc hs with h1 | ⟨elt, gs, scope, p, rfl, h1⟩
  · exact ps_set nd hN (.inl hx) ((compE_ok n X W F0 H0 sc O true e f o tk h).own hf) (sw_ns h1 _ _ _) (.inr hx)
  · cases n with
    | zero => cases h
    | succ n =>
      obtain ⟨tg, iter, ifs, rfl⟩ := lc_shape h
      exact LcP.set o.calm nd (lc_parts o tk (fun X W F0 H0 sc O esc e f o tk h => compE_ok n X W F0 H0 sc O esc e f o tk h) h) hN hx (h1 _)
theorem set_kept {n : Nat} {e : Expr} {f : Env → Res D} {px pos : Pos} {i : Nat} {x : Str} (o : XOk X G N sc k fn) (tk : Takes X W) (h : compE fn G N n sc O true e = some f) (hi : N[i]? = some x) (hl : isLoc1 sc x = true) (hs : (notLC e || lcSw sc x px e) = true)
    (ho : i ∉ O) : PS X (.Assign [.Name x px] e pos) (xS X W F0 H0 O O Ob fr (cAsg false [i] f)) := by
  have hx : X.env.scope.names.lookup x = some .local := by rw [o.sc]; exact isLoc1_ok hl
  have hN : X.N[i]? = some x := by rw [o.n]; exact hi
  have nd : X.N.Nodup := by rw [o.n]; exact o.nd
  rcases lcSw_ok o.sc hs with h1 | ⟨elt, gs, scope, p, rfl, h1⟩
  · exact PS.of (ps_set nd hN (.inl hx) ((compE_ok n X W F0 H0 sc O true e f o tk h).kept rfl) (sw_ns h1 _ _ _) (.inr hx)) fun E σ H q => name_rd ho σ H E q
  · cases n with
    | zero => cases h
    | succ n =>
      obtain ⟨tg, iter, ifs, rfl⟩ := lc_shape h
      exact PS.of (LcP.set o.calm nd (lc_parts o tk (fun X W F0 H0 sc O esc e f o tk h => compE_ok n X W F0 H0 sc O esc e f o tk h) h) hN hx (h1 _)) fun E σ H q => xO_of_xE σ H _ (name_rd ho σ H E q)
theorem nodup_ix {N : List Str} (hN : N.Nodup) {i j : Nat} {x y : Str} (hi : N[i]? = some x) (hj : N[j]? = some y) (h : x ≠ y) : i ≠ j := fun e => by
  subst e; rw [hi] at hj; cases hj; exact h rfl
end
end Ev

set_option Elab.async false
set_option linter.all false
set_option maxRecDepth 100000
set_option maxHeartbeats 8000000
/-! The evaluator, part M: compiled statements are right. -/
namespace Ev
open PySem L2
section
variable {G : GT} {N : List Str} {k : Nat} {fn : Nat → List D → Res D}
variable {X : Cx} {W : WX} {F0 H0 : Hp} {sc : Scope} {O O1 Ob : List Nat} {fr : Bool}
/-- a value of no kind that can be changed -/
theorem ps_retF {e : Expr} {f : Env → Res D} {pos : Pos} (he : PE X e (xE X W F0 H0 [] f)) : PS X (.Return (some e) pos) (xS X W F0 H0 O O1 Ob true (cRet (cFlat f))) :=
  PS.owners (O' := []) (PS.of (ps_ret he) fun E σ H ⟨ρ, F, rel, q⟩ => ⟨ρ, F, rel, (RQ.seq (FQ.of rel.s0 q)).imp fun d _ q1 v F' H' g n => by
    cases hc : isC d with
    | true => rw [hc] at q1; exact False.elim q1
    | false =>
      rw [hc] at q1
      exact (show FQ X.K X.mg W F0 H0 O1 Ob true E F (.ret d) from q1) v F' H' (rel.gr.trans g) (by rw [if_pos rfl, Owv.flat hc]; exact n)⟩) fun k h => absurd h (by simp)
theorem attr_base {x : Str} {p : Pos} (m : Str) (env : PySem.Env) (w : Sem Value) : attributeBase (.Name x p) m env w = w := rfl
theorem assign_sub {o i : Expr} {pos : Pos} {env : PySem.Env} (h : notSl i = true) (v : Value) : assign (.Subscript o i pos) env v = (do
      let ov ← holding [v] (eval o env)
      let iv ← holding [v, ov] (eval i env)
      standAt pos
      holding [v, ov, iv] (setItem ov iv v)
      release [v, ov, iv] []) := by
  cases i <;> first | rfl | (cases h; done)
theorem few1 {e : Expr} (h : notStar e = true) (env : PySem.Env) (pos : Pos) : ((backTo pos (starEach [e] env)).all (fun x => !x.1) && (backToKw pos (keywordEach [] env)).all (fun x => x.1.isSome)
      && decide ([e].length + ([] : List Keyword).length + (if ([] : List Keyword).isEmpty then 0 else 1) < 30)) = true := by
  rw [starEach_ns h]; rfl
theorem own_names {X : Cx} (hs : X.env.scope = sc) {own : List (Str × Nat)} {L : List Nat} (h : own.all (fun p => isLoc1 sc p.1 && !L.contains p.2) = true) :
    (∀ p ∈ own, Loc X.env.scope p.1 ∧ (X.fn p.1 = true ∨ X.env.scope.names.lookup p.1 = some .local)) ∧ ∀ p ∈ own, p.2 ∉ L := by
  have q := fun p hp => Bool.and_eq_true _ _ |>.mp (List.all_eq_true.mp h p hp)
  refine ⟨fun p hp => ?_, fun p hp => ?_⟩
  · have := isLoc1_ok (q p hp).1
    rw [hs]
    exact ⟨.inl this, .inr this⟩
  · have := (q p hp).2
    simpa using this
theorem compS_ok {n : Nat} {cb : List Nat → List Nat → List Nat → List Stmt → Option Cmd} {lv : List Stmt → List Nat → List Nat → List Nat} (o : XOk X G N sc k fn) (tk : Takes X W) (po : PassesOwn (model X.prog X.w) X.A X.env X.xe)
    (ihb : ∀ O O1 Ob b f, cb O O1 Ob b = some f → PSs X b (xS X W F0 H0 O O1 Ob fr f)) {st : Stmt} {f : Cmd} (h : compS G N sc fr (fun O esc e => compE fn G N n sc O esc e) cb lv O O1 Ob st = some f) : PS X st (xS X W F0 H0 O O1 Ob fr f) := by
  have ih := fun O esc e f z => compE_ok n X W F0 H0 sc O esc e f o tk z
  have nd : X.N.Nodup := by rw [o.n]; exact o.nd
  have hc := o.calm
  have hu := o.hu
  have nm : ∀ {x i}, ixOf N x = some i → X.N[i]? = some x := fun z => by rw [o.n]; exact ixOf_get z
  have vi : ∀ {x}, isVis sc x = true → Vis X.env.scope x := fun z => by rw [o.sc]; exact isVis_vis z
  have mi : ∀ {i : Nat} {O : List Nat}, i ∈ ins i O := fun {i O} => by
    unfold ins
    split
    · rename_i z; simpa using z
    · exact List.mem_cons_self
  have si : ∀ {i : Nat} {O : List Nat}, ∀ k ∈ O, k ∈ ins i O := fun {i O} k hk => by
    unfold ins
    split
    · exact hk
    · exact List.mem_cons_of_mem _ hk
  unfold compS at h
  split at h
  · obtain ⟨h1, h⟩ := ite_some h
    cases h
    exact PS.owners ps_passX (sbs_ok h1)
  · obtain ⟨h1, h⟩ := ite_some h
    cases h
    exact ps_brkX (sbs_ok h1)
  · obtain ⟨h1, h⟩ := ite_some h
    cases h
    exact ps_cntX (sbs_ok h1)
  · cases h
    exact ps_retNX
  · rename_i e pos
    cases fr with
    | false =>
      rw [if_neg Bool.false_ne_true] at h
      obtain ⟨g, e1, rfl⟩ := Option.map_eq_some_iff.mp h
      exact ps_retX ((ih [] true e g e1).kept rfl)
    | true =>
      rw [if_pos rfl] at h
      split at h
      · obtain ⟨h1, h⟩ := ite_some h
        obtain ⟨i, e1, h⟩ := obind h
        obtain ⟨h2, h⟩ := ite_some h
        cases h
        simp only [Bool.and_eq_true] at h1
        obtain ⟨d1, d2, d3⟩ := okName_dbg h1.1
        exact ps_retOwn (by simpa using h2) (nm e1) (vi h1.2) d1 d2
      · split at h
        · rename_i hf
          obtain ⟨g, e1, rfl⟩ := Option.map_eq_some_iff.mp h
          exact ps_retO ((ih [] true _ g e1).own hf)
        · obtain ⟨g, e1, rfl⟩ := Option.map_eq_some_iff.mp h
          exact ps_retF ((ih [] true _ g e1).kept rfl)
  · rename_i x p m apos v cpos pos
    obtain ⟨h1, h⟩ := ite_some h
    simp only [Bool.and_eq_true, beq_iff_eq] at h1
    obtain ⟨⟨⟨⟨h1, h2⟩, h3⟩, h4⟩, h5⟩ := h1
    have hh := h
    subst h1
    obtain ⟨i, e1, h⟩ := obind hh
    obtain ⟨g, e2, h⟩ := obind h
    obtain ⟨h6, h⟩ := ite_some h
    cases h
    obtain ⟨d1, d2, d3⟩ := okName_dbg h2
    refine PS.after (PS.owners (PS.of (ps_expr (pe_bm PySem.F.plainAttrs_list PySem.F.slot_list_append PySem.F.type_list_append mt_append (pe_var (nm e1) (vi h3) d1 d2) (pa_cons ((ih _ true v g e2).kept rfl) pa_nil (starEach_ns h4 _ _)) (attr_base _ _ _) (few1 h4 _ _) (by simp [h5]) (starEach_ns h4 _ _) rfl) rfl) fun E σ H q => app_rd mi σ H E q) (sbs_ok h6)) si
  · rename_i e pos _
    obtain ⟨h1, h⟩ := ite_some h
    rw [Bool.and_eq_true] at h1
    obtain ⟨g, e1, rfl⟩ := Option.map_eq_some_iff.mp h
    exact PS.owners (ps_dropX ((ih _ true e g e1).kept rfl) (sw_ns h1.1 _ _ _)) (sbs_ok h1.2)
  · rename_i x px e pos
    obtain ⟨h1, h⟩ := ite_some h
    simp only [Bool.and_eq_true] at h1
    obtain ⟨⟨h1, h2⟩, h3⟩ := h1
    obtain ⟨i, e1, h⟩ := obind h
    split at h
    · obtain ⟨h4, h⟩ := ite_some h
      simp only [Bool.and_eq_true] at h4
      obtain ⟨⟨h4, h5⟩, h6⟩ := h4
      obtain ⟨g, e2, rfl⟩ := Option.map_eq_some_iff.mp h
      exact PS.both (PS.of (set_own o tk e2 (ixOf_get e1) h2 h3 h4) fun E σ H q => own1_rd σ H E q) h5 h6
    · rename_i h4
      obtain ⟨h5, h⟩ := ite_some h
      obtain ⟨g, e2, rfl⟩ := Option.map_eq_some_iff.mp h
      exact PS.owners (set_kept o tk e2 (ixOf_get e1) h2 h3 (by simpa using h4)) (sbs_ok h5)
  · rename_i x px y py kt pt a b k2 pt2 pos
    obtain ⟨h1, h⟩ := ite_some h
    simp only [Bool.and_eq_true, Bool.not_eq_true', beq_eq_false_iff_ne] at h1
    obtain ⟨⟨⟨⟨⟨⟨⟨⟨n1, n2⟩, l1⟩, l2⟩, so⟩, sa⟩, sb⟩, hf⟩, hxy⟩ := h1
    obtain ⟨i, e1, h⟩ := obind h
    obtain ⟨j, e2, h⟩ := obind h
    obtain ⟨fa, e3, h⟩ := obind h
    obtain ⟨fb, e4, h⟩ := obind h
    obtain ⟨h1, h⟩ := ite_some h
    simp only [Bool.and_eq_true, Bool.not_eq_true', beq_eq_false_iff_ne, List.contains_eq_mem, decide_eq_false_iff_not] at h1
    obtain ⟨⟨io, jo⟩, ij⟩ := h1
    have hx : X.env.scope.names.lookup x = some .local := by rw [o.sc]; exact isLoc1_ok l1
    have hy : X.env.scope.names.lookup y = some .local := by rw [o.sc]; exact isLoc1_ok l2
    have pa : PA X [a, b] (xA X W F0 H0 O1 (cs [fa, fb])) := pa_consE ((ih _ true a fa e3).kept rfl) (pa_consE ((ih _ true b fb e4).kept rfl) pa_nilE (starEach_ns sb _ _)) (starEach_ns sa _ _)
    split at h
    · rename_i h2
      cases h
      simp only [Bool.and_eq_true, Bool.not_eq_true', beq_eq_false_iff_ne] at h2
      obtain ⟨⟨h2, h3⟩, h4⟩ := h2
      exact PS.owners (PS.of (ps_par hc nd (nm e1) (nm e2) ij hx hy pa (sw_par (by rw [o.sc]; exact hf) hx hy h2 hxy sa sb h3 h4) rfl) fun E σ H q => par_rd io jo rfl σ H E q) (sbs_ok so)
    · obtain ⟨h2, h⟩ := ite_some h
      cases h
      have hl : ∀ p ∈ [(x, i), (y, j)], Loc X.env.scope p.1 ∧ (X.fn p.1 = true ∨ X.env.scope.names.lookup p.1 = some .local) := fun p hp => by
        simp only [List.mem_cons, List.not_mem_nil, or_false] at hp
        rcases hp with rfl | rfl
        · exact ⟨.inl hx, .inr hx⟩
        · exact ⟨.inl hy, .inr hy⟩
      have tg : PG X (.Tuple [.Name x px, .Name y py] kt pt) (xG X F0 H0 O1 true ([(x, i), (y, j)].map (·.2))) := by
        refine tg_ok (N := N) o.n o.nd hc ?_ hl fun p hp => ?_
        · simp only [tgIx, namesIx, e1, e2, n1, n2]; rfl
        · simp only [List.mem_cons, List.not_mem_nil, or_false] at hp
          rcases hp with rfl | rfl
          · exact io
          · exact jo
      exact PS.owners (ps_asgX (pe_tupE pa) tg rfl (sw_fold (by simp only [List.all_cons, List.all_nil, Bool.and_true]; exact h2)) rfl) (sbs_ok so)
  · rename_i ts kt pt e pos _
    obtain ⟨h1, h⟩ := ite_some h
    rw [Bool.and_eq_true] at h1
    obtain ⟨⟨tup, own⟩, e1, h⟩ := obind h
    obtain ⟨g, e2, h⟩ := obind h
    obtain ⟨h2, h⟩ := ite_some h
    cases h
    obtain ⟨q1, q2⟩ := own_names (X := X) o.sc h2
    exact PS.owners (ps_asgX ((ih _ true e g e2).kept rfl) (tg_ok (N := N) o.n o.nd hc e1 q1 q2) (sw_tup (es := ts) (kk := kt) (p := pt) pos.line X.env) (swst_nt h1.2 _) rfl) (sbs_ok h1.1)
  · rename_i x p kx pp v pos
    obtain ⟨h1, h⟩ := ite_some h
    simp only [Bool.and_eq_true] at h1
    obtain ⟨⟨h1, h2⟩, h3⟩ := h1
    obtain ⟨i, e1, h⟩ := obind h
    obtain ⟨fv, e2, h⟩ := obind h
    obtain ⟨fk, e3, h⟩ := obind h
    obtain ⟨h4, h⟩ := ite_some h
    cases h
    obtain ⟨d1, d2, d3⟩ := okName_dbg h1
    exact PS.after (PS.owners (PS.of (ps_asg ((ih _ true v fv e2).kept rfl) (pg_sub (pe_var (nm e1) (vi h2) d1 d2) (ih _ false kx fk e3).read (set_X (by omega)) (assign_sub h3)) (sw_sub (o := .Name x p) (i := kx) (p := pp) pos.line X.env) (by cases v <;> rfl) rfl) fun E σ H q => setI_rd mi σ H E q) (sbs_ok h4)) si
  · rename_i c a b pos
    obtain ⟨h1, h⟩ := ite_some h
    obtain ⟨fc, e1, h⟩ := obind h
    obtain ⟨fa, e2, h⟩ := obind h
    obtain ⟨fb, e3, h⟩ := obind h
    cases h
    exact ps_ifX ((ih _ true c fc e1).test h1 rfl) (ihb _ _ _ _ _ e2) (ihb _ _ _ _ _ e3)
  · rename_i tg iter body pos
    obtain ⟨⟨tup, own⟩, e1, h⟩ := obind h
    obtain ⟨src, e2, h⟩ := obind h
    obtain ⟨fb, e3, h⟩ := obind h
    obtain ⟨h1, h⟩ := ite_some h
    cases h
    simp only [Bool.and_eq_true] at h1
    obtain ⟨⟨⟨h1, h2⟩, h3⟩, h4⟩ := h1
    obtain ⟨q1, q2⟩ := own_names (X := X) o.sc h3
    exact PS.owners (PS.of (ps_for po hc (compI_ok o (fun esc e f z => ih _ esc e f z) e2) (tg_ok (N := N) o.n o.nd hc e1 q1 q2) (ihb _ _ _ _ _ e3) (folded_ns h4 _)) fun E σ H q => for_rd (sbs_ok h1) σ H E q) (sbs_ok h2)
  · rename_i c body pos
    obtain ⟨fc, e1, h⟩ := obind h
    obtain ⟨fb, e2, h⟩ := obind h
    obtain ⟨h1, h⟩ := ite_some h
    cases h
    simp only [Bool.and_eq_true] at h1
    obtain ⟨⟨h1, h2⟩, h3⟩ := h1
    exact PS.owners (PS.of (ps_while po ((ih _ true c fc e1).test h3 rfl) (ihb _ _ _ _ _ e2)) fun E σ H q => while_rd (sbs_ok h1) σ H E q) (sbs_ok h2)
  · cases h
theorem compB_ok (o : XOk X G N sc k fn) (tk : Takes X W) (po : PassesOwn (model X.prog X.w) X.A X.env X.xe) : ∀ (n : Nat) (O O1 Ob : List Nat) (ss : List Stmt) (f : Cmd), compB fn G N fr n sc O O1 Ob ss = some f → PSs X ss (xS X W F0 H0 O O1 Ob fr f) := by
  intro n
  induction n with
  | zero => intro O O1 Ob ss f h; cases h
  | succ n ih =>
    intro O O1 Ob ss f h
    simp only [compB] at h
    split at h
    · obtain ⟨h1, h⟩ := ite_some h
      cases h
      exact PSs.after pss_nilX (sbs_ok h1)
    · obtain ⟨a, e1, h⟩ := obind h
      obtain ⟨b, e2, h⟩ := obind h
      cases h
      exact pss_consX (compS_ok o tk po (fun O O1 Ob b f z => ih O O1 Ob b f z) e1) (ih _ _ _ _ _ e2)
end
end Ev

set_option Elab.async false
set_option linter.all false
set_option maxRecDepth 100000
set_option maxHeartbeats 8000000
/-! The evaluator, part N: defs. -/
namespace Ev
open PySem L2

/-- a def of the text -/
structure DefD where
  name : Str
  st : Stmt
  ps : List Str
  N : List Str
def startE (m n : Nat) (as : List D) : Env := as.map some ++ List.replicate (n - m) none
def runF (m n : Nat) (c : Cmd) (as : List D) : Res D := if as.length = m then (match c (startE m n as) with
  | .next _ => .ok .none
  | .ret d => .ok d
  | .exc x => .exc x
  | _ => .bad) else .bad
def cmdF (fn : Nat → List D → Res D) (G : GT) (d : DefD) : Option Cmd := compB fn G d.N (G.frs.contains d.name) 200 (defScope d.st) [] [] [] (defBody d.st)
def runO (m n : Nat) (c : Option Cmd) (as : List D) : Res D := match c with
  | some c => runF m n c as
  | none => .bad
def defF (fn : Nat → List D → Res D) (G : GT) (d : DefD) (as : List D) : Res D := runO d.ps.length d.N.length (cmdF fn G d) as
def evF (T : List DefD) (G : GT) : Nat → Nat → List D → Res D
  | 0 => fun _ _ => .bad
  | n + 1 => fun i as => match T[i]? with
    | some d => defF (evF T G n) G d as
    | none => .bad
/-- what is known of the module behind the top -/
structure ModOk (K : PySem.W.Frag) (mg : Str → Option Value) (T : List DefD) (G : GT) (fa : Nat → Addr) (fd : Nat → FuncData) : Prop where
  defs : ∀ i d, T[i]? = some d → Fun K d.name d.name d.st (fa i) (fd i) ∧ mg d.name = some (.ref (fa i)) ∧ Binds K (fd i) d.ps [] ∧ FnScope d.N d.ps (defScope d.st)
  fns : ∀ x i, G.fns.lookup x = some i → ∃ d, T[i]? = some d ∧ d.name = x
  consts : ∀ x d, G.consts.lookup x = some d → ∃ u v, mg x = some u ∧ scV d = some v ∧ RelV v u
  bis : ∀ x, G.bis.contains x = true → mg x = none
theorem defF_len {fn : Nat → List D → Res D} {G : GT} {d : DefD} {as : List D} (h : as.length ≠ d.ps.length) : defF fn G d as = .bad := by
  unfold defF
  cases cmdF fn G d with
  | none => rfl
  | some c => exact if_neg h
theorem evF_len {T : List DefD} {G : GT} {n i : Nat} {d : DefD} {as : List D} (hd : T[i]? = some d) (h : as.length ≠ d.ps.length) : evF T G n i as = .bad := by
  cases n with
  | zero => rfl
  | succ n =>
    show (match T[i]? with
    | some d => defF (evF T G n) G d as
    | none => .bad) = Res.bad
    rw [hd]
    exact defF_len h
theorem start_rel {K : PySem.W.Frag} {F H : Hp} {N : List Str} {vs : List V} {as : List D} (s : Same F H) (n : DnL K F vs as) : Rel K F H [] (startE as.length N.length as) (L2.start N vs) F H := by
  have hl := n.length
  have get : ∀ (i : Nat) (d : D), (startE as.length N.length as)[i]? = some (some d) → as[i]? = some d := fun i d h => by
    unfold startE at h
    by_cases z : i < as.length
    · rw [List.getElem?_append_left (by simpa using z), List.getElem?_map] at h
      cases e : as[i]? with
      | none => rw [e] at h; cases h
      | some x => rw [e] at h; cases h; rfl
    · rw [List.getElem?_append_right (by simp; omega), List.getElem?_replicate] at h
      split at h <;> cases h
  refine ⟨by unfold startE L2.start; simp [hl], s, Same.refl _, Same.refl _, fun a o h => .inl h, fun i d _ h => ?_, fun i d h => absurd h (by simp), fun i j d e a h => absurd h (by simp)⟩
  obtain ⟨v, e1, e2⟩ := n.get (get i d h)
  refine ⟨v, ?_, e2⟩
  unfold L2.start
  have : i < vs.length := (List.getElem?_eq_some_iff.mp e1).1
  rw [List.getElem?_append_left (by simpa using this), List.getElem?_map, e1]
  rfl
theorem fns_ok {P : Program} {w : World} {K : PySem.W.Frag} {mg : Str → Option Value} {base : Heap} {T : List DefD} {G : GT} {fa : Nat → Addr} {fd : Nat → FuncData} (M : ModOk K mg T G fa fd) :
    ∀ (n i : Nat) (d : DefD), T[i]? = some d → FnOk P w K mg base (L2.CX P w) n (fa i) (fd i) d.ps (spEv K mg d.ps.length (G.frs.contains d.name) (evF T G n i)) := by
  intro n
  induction n with
  | zero =>
    intro i d hd
    exact ⟨fun vs H Q E h => h.1, fun A outer s H args us vs Q E hr he hb hv hs => by
      obtain ⟨_, as, F0, _, _, q⟩ := hs
      exact False.elim q⟩
  | succ n ih =>
    intro i d hd
    obtain ⟨hF, hm, hb, S⟩ := M.defs i d hd
    refine hF.okX S (fun vs H Q E h => h.1) fun cdv A outer s H vs Q E hr h => ?_
    obtain ⟨hl, as, F0, s0, dn, q⟩ := h
    have q : match defF (evF T G n) G d as with
      | .ok dd => ∀ v F' H', Gr F0 H F' H' → (if G.frs.contains d.name = true then Owv K H F' H' v dd else Dn K F' v dd) → Q v H'
      | .exc x => ∀ cls d H', Same H H' → ExIs K mg H' x cls d → E cls d H'
      | .bad => False := by
      have e : evF T G (n + 1) i as = defF (evF T G n) G d as := by
        show (match T[i]? with
        | some d => defF (evF T G n) G d as
        | none => .bad) = _
        rw [hd]
      rw [← e]; exact q
    unfold defF at q
    cases hc : cmdF (evF T G n) G d with
    | none => rw [hc] at q; exact False.elim q
    | some c =>
      rw [hc] at q
      have q : match runF d.ps.length d.N.length c as with
        | .ok dd => ∀ v F' H', Gr F0 H F' H' → (if G.frs.contains d.name = true then Owv K H F' H' v dd else Dn K F' v dd) → Q v H'
        | .exc x => ∀ cls d H', Same H H' → ExIs K mg H' x cls d → E cls d H'
        | .bad => False := q
      have lk : ∀ x j, G.fns.lookup x = some j → ∃ f fd ps, mg x = some (.ref f) ∧ PySem.W.keepIn K (.ref f) = true ∧ Binds K fd ps [] ∧ FnOk P w K mg base (L2.CX P w) n f fd ps (spEv K mg ps.length (G.frs.contains x) (evF T G n j)) ∧ ∀ as : List D, as.length ≠ ps.length → evF T G n j as = .bad := fun x j hx => by
        obtain ⟨d', e1, e2⟩ := M.fns x j hx
        obtain ⟨h1, h2, h3, h4⟩ := M.defs j d' e1
        refine ⟨fa j, fd j, d'.ps, e2 ▸ h2, h1.kp, h3, ?_, fun as z => evF_len e1 z⟩
        have := ih j d' e1
        rw [e2] at this
        exact this
      have o : XOk (cxOf (L2.CX P w) P w K mg base d.N d.name (defScope d.st) (fa i) cdv A outer s H E) G d.N (defScope d.st) n (evF T G n) :=
        ⟨rfl, S.nd, rfl, rfl, hr, M.consts, M.bis, lk⟩
      refine ⟨_, compB_ok (F0 := F0) (H0 := H) (fr := G.frs.contains d.name) (W := fun cls d _ H => E cls d H) o (takes_of rfl rfl rfl rfl) (passes_of rfl) _ _ _ _ _ _ hc, startE d.ps.length d.N.length as, F0, ?_, ?_⟩
      · have hl2 : as.length = d.ps.length := by rw [← dn.length, hl]
        rw [← hl2]
        exact start_rel s0 dn
      · unfold runF at q
        rw [if_pos (by rw [← dn.length, hl])] at q
        cases e : c (startE d.ps.length d.N.length as) with
        | next ρ =>
          rw [e] at q
          intro σ' F' H' s1 rel
          refine q .non F' H' ⟨rel.s0, rel.sf0, rel.sfh, rel.nw⟩ ?_
          cases G.frs.contains d.name <;> exact .non
        | ret dd =>
          rw [e] at q
          exact fun v F' H' g hv => q v F' H' g hv
        | brk ρ => rw [e] at q; exact False.elim q
        | cnt ρ => rw [e] at q; exact False.elim q
        | exc x =>
          rw [e] at q
          exact fun cls d' σ' H' s1 z => q cls d' H' s1 z
        | bad => rw [e] at q; exact False.elim q
end Ev

set_option Elab.async false
set_option linter.all false
set_option maxRecDepth 100000
set_option maxHeartbeats 8000000
/-! The evaluator, part O: the end of a row. -/
namespace Ev
open PySem L2

/-- one def as it stands -/
structure DefOk (K : PySem.W.Frag) (mg : Str → Option Value) (d : DefD) (f : Addr) (fd : FuncData) : Prop where
  fn : Fun K d.name d.name d.st f fd
  mgf : mg d.name = some (.ref f)
  b : Binds K fd d.ps []
  S : FnScope d.N d.ps (defScope d.st)
inductive DefsOk (K : PySem.W.Frag) (mg : Str → Option Value) : List DefD → List (Addr × FuncData) → Prop
  | nil : DefsOk K mg [] []
  | cons {d : DefD} {f : Addr} {fd : FuncData} {T : List DefD} {L : List (Addr × FuncData)} : DefOk K mg d f fd → DefsOk K mg T L → DefsOk K mg (d :: T) ((f, fd) :: L)
theorem DefsOk.get {K : PySem.W.Frag} {mg : Str → Option Value} : ∀ {T : List DefD} {L : List (Addr × FuncData)}, DefsOk K mg T L → ∀ (p0 : Addr × FuncData) i d, T[i]? = some d → DefOk K mg d (L.getD i p0).1 (L.getD i p0).2
  | _, _, .nil, p0, i, d, e => by simp at e
  | _, _, .cons h r, p0, 0, d, e => by
    simp only [List.getElem?_cons_zero, Option.some.injEq] at e
    subst e; exact h
  | _, _, .cons h r, p0, i + 1, d, e => by
    simp only [List.getElem?_cons_succ] at e
    exact r.get p0 i d e
/-- the numbers of the defs -/
def fnsOk (T : List DefD) (G : GT) : Bool := G.fns.all fun p => match T[p.2]? with
  | some d => d.name == p.1
  | none => false
theorem lookup_mem {α β : Type} [BEq α] [LawfulBEq α] {l : List (α × β)} {x : α} {i : β} (h : l.lookup x = some i) : (x, i) ∈ l := by
  induction l with
  | nil => cases h
  | cons p r ih =>
    obtain ⟨a, b⟩ := p
    rw [List.lookup_cons] at h
    split at h
    · rename_i e
      have := eq_of_beq e
      subst this
      cases h
      exact List.mem_cons_self
    · exact List.mem_cons_of_mem _ (ih h)
theorem fnsOk_get {T : List DefD} {G : GT} (h : fnsOk T G = true) : ∀ x i, G.fns.lookup x = some i → ∃ d, T[i]? = some d ∧ d.name = x := by
  intro x i e
  have := List.all_eq_true.mp h _ (lookup_mem e)
  simp only at this
  split at this
  · rename_i d hd
    exact ⟨d, hd, eq_of_beq this⟩
  · cases this
/-- constants and built-ins that stand -/
inductive ConstsOk (mg : Str → Option Value) : List (Str × D) → Prop
  | nil : ConstsOk mg []
  | cons {x : Str} {d : D} {u : Value} {v : V} {l : List (Str × D)} : mg x = some u → scV d = some v → RelV v u → ConstsOk mg l → ConstsOk mg ((x, d) :: l)
theorem ConstsOk.get {mg : Str → Option Value} : ∀ {l : List (Str × D)}, ConstsOk mg l → ∀ x d, l.lookup x = some d → ∃ u v, mg x = some u ∧ scV d = some v ∧ RelV v u
  | _, .nil, x, d, e => by cases e
  | _, .cons (x := y) h1 h2 h3 r, x, d, e => by
    rw [List.lookup_cons] at e
    split at e
    · rename_i z
      have := eq_of_beq z
      subst this
      cases e
      exact ⟨_, _, h1, h2, h3⟩
    · exact r.get x d e
inductive NonesOk (mg : Str → Option Value) : List Str → Prop
  | nil : NonesOk mg []
  | cons {x : Str} {l : List Str} : mg x = none → NonesOk mg l → NonesOk mg (x :: l)
theorem NonesOk.get {mg : Str → Option Value} : ∀ {l : List Str}, NonesOk mg l → ∀ x, l.contains x = true → mg x = none
  | _, .nil, x, e => by simp at e
  | _, .cons (x := y) h r, x, e => by
    rw [List.contains_cons, Bool.or_eq_true] at e
    rcases e with e | e
    · have := eq_of_beq e
      subst this; exact h
    · exact r.get x e
theorem mod_of {K : PySem.W.Frag} {mg : Str → Option Value} {T : List DefD} {G : GT} {L : List (Addr × FuncData)} (p0 : Addr × FuncData) (h : DefsOk K mg T L) (hf : fnsOk T G = true) (hc : ConstsOk mg G.consts) (hb : NonesOk mg G.bis) :
    ModOk K mg T G (fun i => (L.getD i p0).1) (fun i => (L.getD i p0).2) :=
  ⟨fun i d e => by
    have q := h.get p0 i d e
    exact ⟨q.fn, q.mgf, q.b, q.S⟩, fnsOk_get hf, hc.get, hb.get⟩
/-- law's promise -/
def spLaw (K : PySem.W.Frag) : Sp := fun vs H Q _ => ∃ (a : Addr) (ns : List Int), vs = [.ref a] ∧ SqL K H a (ns.map V.int) ∧ ns.length ≤ 63 ∧ (∀ z ∈ ns, Builtin.Int.intBits z ≤ 1048576) ∧ ∀ H', Q (.bl true) H'
/-- what is to be shown of the text: law answers True -/
def LawOk (T : List DefD) (G : GT) (n i : Nat) : Prop := ∀ ns : List Int, ns.length ≤ 63 → (∀ z ∈ ns, Builtin.Int.intBits z ≤ 1048576) → evF T G n i [.list (ns.map .int)] = .ok (.bool true)
theorem law_fn {P : Program} {w : World} {K : PySem.W.Frag} {mg : Str → Option Value} {base : Heap} {T : List DefD} {G : GT} {fa : Nat → Addr} {fd : Nat → FuncData} {n i : Nat} {d : DefD} {x : Str} (M : ModOk K mg T G fa fd) (hd : T[i]? = some d) (hp : d.ps = [x]) (h : LawOk T G n i) :
    FnOk P w K mg base (L2.CX P w) n (fa i) (fd i) [x] (spLaw K) := by
  have F := fns_ok (P := P) (w := w) (base := base) M n i d hd
  rw [hp] at F
  refine F.imp fun vs H Q E ⟨a, ns, e1, e2, e3, e4, e5⟩ => ?_
  subst e1
  refine ⟨rfl, [.list (ns.map .int)], H, Same.refl _, .one (.lst e2 (dn_ints ns)), ?_⟩
  rw [h ns e3 e4]
  intro v F' H' g q
  have : v = .bl true := by
    split at q
    · have q : Dn K F' v (.bool true) := q
      cases q; rfl
    · cases q; rfl
  subst this
  exact e5 H'
theorem walk_ev {l : PySem.W.OpenLaw} {q : Program} {loose : List Str} {XP : (Str → Option Value) → Heap → Prop} {YP : World → Heap → Prop} {d : DefRec} {K : Params → PySem.W.Frag} {n : Nat} {x : Str} (hr : Room n callerA) (hn : l.most = some 63) (hdf : d.params.defaults = [])
    (hY : ∀ (w : World) (h : Heap), YP w h → (K w.params).In h)
    (F : ∀ (w : World) (mg : Str → Option Value) (fa : Addr) (h : Heap), (K w.params).In h → h.Ns mainGlobals mg → mg d.name = some (.ref fa) →
      ∃ fd : FuncData, (∀ (s : Shared) (u : Value), BindsTo s fd ⟨[u], []⟩ [(x, u)]) ∧ ∀ base : Heap, (K w.params).In base → base.Ns mainGlobals mg → FnOk l.prog w (K w.params) mg base (L2.CX l.prog w) n fa fd [x] (spLaw (K w.params))) :
    PySem.W.WalkO q loose XP YP l.row.toRowW d [] (fun f vs => PySem.call f vs) :=
  L2.walk_ofB (n := 63) (k := n) (x := x) (CX := fun w => L2.CX l.prog w) (sp := fun w => spLaw (K w.params)) hn (by decide) hdf hr hY F (fun _ _ a ns hl hb _ hS => ⟨a, ns, rfl, hS, hl, hb, fun _ => rfl⟩) fun w H s e s' z => by
    obtain ⟨_, _, _, _, _, _, _, _, _, _, _, _, z⟩ := z
    exact z
end Ev

set_option Elab.async false
set_option linter.all false
set_option maxRecDepth 100000
set_option maxHeartbeats 4000000
/-! What a compiled text computes: the plain side. -/
namespace Ev
open PySem

/-- kept from being taken as a rule of unfolding -/
theorem nr {α : Sort _} {a b : α} (h : a = b) : a = b := h
def WPb {α : Type} (r : Res α) (Q : α → Prop) : Prop := match r with
  | .ok a => Q a
  | _ => False
def OP {α : Type} (o : Option α) (Q : α → Prop) : Prop := match o with
  | some a => Q a
  | none => False
def BP (d : D) (Q : Bool → Prop) : Prop := match d with
  | .bool b => Q b
  | _ => False
def IP (d : D) (Q : Int → Prop) : Prop := match d with
  | .int b => Q b
  | _ => False
def LP (d : D) (Q : List D → Prop) : Prop := match d with
  | .list b => Q b
  | _ => False
def TP (d : D) (Q : List D → Prop) : Prop := match d with
  | .tuple b => Q b
  | _ => False
def slotP (ρ : Env) (i : Nat) (Q : D → Prop) : Prop := match ρ[i]? with
  | some (some d) => Q d
  | _ => False
def WFb (r : Fl) (N B C : Env → Prop) (R : D → Prop) : Prop := match r with
  | .next ρ => N ρ
  | .brk ρ => B ρ
  | .cnt ρ => C ρ
  | .ret d => R d
  | _ => False
section
variable {α β : Type} {Q : α → Prop} {ρ : Env} {P : D → Prop} {f h k : Env → Res D} {fs : List (Env → Res D)}
theorem WPb.imp {r : Res α} {Q' : α → Prop} (h : WPb r Q) (i : ∀ a, Q a → Q' a) : WPb r Q' := by
  cases r with
  | ok a => exact i a h
  | exc x => exact h
  | bad => exact h
theorem WPb.ok {r : Res α} {a : α} (h : WPb r fun x => x = a) : r = .ok a := by
  cases r with
  | ok b => exact congrArg _ h
  | exc x => exact False.elim h
  | bad => exact False.elim h
theorem b_wp_of {r : Res α} {a : α} (h : r = .ok a) (q : Q a) : WPb r Q := by rw [h]; exact q
theorem b_wp_ok (a : α) (Q : α → Prop) : WPb (.ok a) Q = Q a := rfl
theorem b_op_some (a : α) (Q : α → Prop) : OP (some a) Q = Q a := rfl
theorem b_op_none (Q : α → Prop) : OP none Q = False := rfl
theorem b_bp_bool (b : Bool) (Q : Bool → Prop) : BP (.bool b) Q = Q b := rfl
theorem b_ip_int (b : Int) (Q : Int → Prop) : IP (.int b) Q = Q b := rfl
theorem b_lp_list (b : List D) (Q : List D → Prop) : LP (.list b) Q = Q b := rfl
theorem b_tp_tup (b : List D) (Q : List D → Prop) : TP (.tuple b) Q = Q b := rfl
theorem b_slot_0 (d : D) (r : Env) (Q : D → Prop) : slotP (some d :: r) 0 Q = Q d := rfl
theorem b_slot_s (o : Option D) (r : Env) (i : Nat) (Q : D → Prop) : slotP (o :: r) (i + 1) Q = slotP r i Q := by
  unfold slotP
  rw [List.getElem?_cons_succ]
theorem b_WP_bind {r : Res β} {g : β → Res α} (Q : α → Prop) : WPb (r >>= g) Q = WPb r fun a => WPb (g a) Q := by cases r <;> rfl
theorem b_WP_ofO {o : Option α} (Q : α → Prop) : WPb (ofO o) Q = OP o Q := by cases o <;> rfl
theorem b_WP_asB {d : D} (Q : Bool → Prop) : WPb (asB d) Q = BP d Q := by cases d <;> rfl
theorem b_WP_cB (Q : Bool → Prop) : WPb (cB f ρ) Q = WPb (f ρ) fun d => BP d Q := by
  show WPb (f ρ >>= asB) Q = _
  rw [b_WP_bind]
  congr 1
  funext a
  exact b_WP_asB Q
theorem b_wp_slot (i : Nat) (Q : D → Prop) : WPb (cSlot i ρ) Q = slotP ρ i Q := by
  unfold cSlot slotP
  cases ρ[i]? with
  | none => rfl
  | some o => cases o <;> rfl
theorem b_wp_lit (d : D) (Q : D → Prop) : WPb (cLit d ρ) Q = Q d := rfl
theorem b_wp_c1 (g : D → Option D) (Q : D → Prop) : WPb (c1 g f ρ) Q = WPb (f ρ) fun a => OP (g a) Q := by
  show WPb (f ρ >>= fun a => ofO (g a)) Q = _
  rw [b_WP_bind]; congr 1; funext a; exact b_WP_ofO Q
theorem b_wp_c2 (g : D → D → Option D) (Q : D → Prop) : WPb (c2 g f h ρ) Q = WPb (f ρ) fun a => WPb (h ρ) fun b => OP (g a b) Q := by
  show WPb (f ρ >>= fun a => h ρ >>= fun b => ofO (g a b)) Q = _
  rw [b_WP_bind]; congr 1; funext a; rw [b_WP_bind]; congr 1; funext b; exact b_WP_ofO Q
theorem b_wp_nil (Q : List D → Prop) : WPb (cs [] ρ) Q = Q [] := rfl
theorem b_wp_cons (Q : List D → Prop) : WPb (cs (f :: fs) ρ) Q = WPb (f ρ) fun a => WPb (cs fs ρ) fun as => Q (a :: as) := by
  show WPb (f ρ >>= fun a => cs fs ρ >>= fun as => Res.ok (a :: as)) Q = _
  rw [b_WP_bind]; congr 1; funext a; rw [b_WP_bind]; rfl
theorem b_wp_cN (g : List D → Option D) (Q : D → Prop) : WPb (cN g fs ρ) Q = WPb (cs fs ρ) fun as => OP (g as) Q := by
  show WPb (cs fs ρ >>= fun a => ofO (g a)) Q = _
  rw [b_WP_bind]; congr 1; funext a; exact b_WP_ofO Q
theorem b_wp_and (Q : D → Prop) : WPb (cAnd f h ρ) Q = WPb (f ρ) fun d => BP d fun b => if b = true then WPb (h ρ) Q else Q (.bool false) := by
  show WPb (cB f ρ >>= fun b => if b = true then h ρ else .ok (.bool false)) Q = _
  rw [b_WP_bind, b_WP_cB]
  congr 1; funext d; congr 1; funext b
  cases b <;> rfl
theorem b_wp_or (Q : D → Prop) : WPb (cOr f h ρ) Q = WPb (f ρ) fun d => BP d fun b => if b = true then Q (.bool true) else WPb (h ρ) Q := by
  show WPb (cB f ρ >>= fun b => if b = true then .ok (.bool true) else h ρ) Q = _
  rw [b_WP_bind, b_WP_cB]
  congr 1; funext d; congr 1; funext b
  cases b <;> rfl
theorem b_wp_not (Q : D → Prop) : WPb (cNot f ρ) Q = WPb (f ρ) fun d => BP d fun b => Q (.bool !b) := by
  show WPb (cB f ρ >>= fun b => .ok (.bool !b)) Q = _
  rw [b_WP_bind, b_WP_cB]; rfl
theorem b_wp_if (Q : D → Prop) : WPb (cIf k f h ρ) Q = WPb (k ρ) fun d => BP d fun b => if b = true then WPb (f ρ) Q else WPb (h ρ) Q := by
  show WPb (cB k ρ >>= fun b => if b = true then f ρ else h ρ) Q = _
  rw [b_WP_bind, b_WP_cB]
  congr 1; funext d; congr 1; funext b
  cases b <;> rfl
theorem b_wp_tup (Q : D → Prop) : WPb (cTup fs ρ) Q = WPb (cs fs ρ) fun as => as.length ≤ line ∧ Q (.tuple as) := by
  unfold cTup
  rw [b_wp_cN]; congr 1; funext as
  split <;> simp [OP, *]
theorem b_wp_lst (Q : D → Prop) : WPb (cLst fs ρ) Q = WPb (cs fs ρ) fun as => as.length ≤ line ∧ Q (.list as) := by
  unfold cLst
  rw [b_wp_cN]; congr 1; funext as
  split <;> simp [OP, *]
theorem b_wp_chain (g g' : D → D → Option D) (Q : D → Prop) : WPb (cChain g g' f h k ρ) Q = WPb (f ρ) fun a => WPb (h ρ) fun b => OP (g a b) fun z => BP z fun t => if t = true then WPb (k ρ) fun c => OP (g' b c) Q else Q (.bool false) := by
  show WPb (f ρ >>= fun a => h ρ >>= fun b => ofO (g a b) >>= fun z => asB z >>= fun t => if t = true then (k ρ >>= fun c => ofO (g' b c)) else .ok (.bool false)) Q = _
  rw [b_WP_bind]; congr 1; funext a
  rw [b_WP_bind]; congr 1; funext b
  rw [b_WP_bind, b_WP_ofO]; congr 1; funext z
  rw [b_WP_bind, b_WP_asB]; congr 1; funext t
  cases t with
  | true =>
    show WPb (k ρ >>= fun c => ofO (g' b c)) Q = WPb (k ρ) fun c => OP (g' b c) Q
    rw [b_WP_bind]; congr 1; funext c; exact b_WP_ofO Q
  | false => rfl
theorem b_wp_isi (T : String) (Q : D → Prop) : WPb (cIsi f T ρ) Q = WPb (f ρ) fun d => Q (.bool (isiB d T)) := by
  unfold cIsi
  rw [b_wp_c1]; rfl
theorem b_wp_part0 (Q : Option Int → Prop) : WPb (cPart none ρ) Q = Q none := rfl
theorem b_wp_part (Q : Option Int → Prop) : WPb (cPart (some f) ρ) Q = WPb (f ρ) fun d => IP d fun i => Q (some i) := by
  show WPb (f ρ >>= fun d => match d with | .int i => .ok (some i) | _ => .bad) Q = _
  rw [b_WP_bind]; congr 1; funext d
  cases d <;> rfl
theorem b_wp_sl (l u : Option (Env → Res D)) (Q : D → Prop) : WPb (cSl f l u ρ) Q = WPb (f ρ) fun a => WPb (cPart l ρ) fun lo => WPb (cPart u ρ) fun hi => OP (slD a lo hi) Q := by
  show WPb (f ρ >>= fun a => cPart l ρ >>= fun lo => cPart u ρ >>= fun hi => ofO (slD a lo hi)) Q = _
  rw [b_WP_bind]; congr 1; funext a; rw [b_WP_bind]; congr 1; funext lo; rw [b_WP_bind]; congr 1; funext hi; exact b_WP_ofO Q
theorem b_wp_call (fn : Nat → List D → Res D) (i : Nat) (Q : D → Prop) : WPb (cCall fn i fs ρ) Q = WPb (cs fs ρ) fun as => WPb (fn i as) Q := by
  show WPb (cs fs ρ >>= fun as => fn i as) Q = _
  rw [b_WP_bind]
theorem b_wp_seq (Q : List D → Prop) : WPb (cSeq f ρ) Q = WPb (f ρ) fun d => OP (seqOf d) Q := by
  show WPb (f ρ >>= fun d => ofO (seqOf d)) Q = _
  rw [b_WP_bind]; congr 1; funext d; exact b_WP_ofO Q
theorem b_wp_src (g : List D → Option (List D)) (Q : List D → Prop) : WPb (cSrc g fs ρ) Q = WPb (cs fs ρ) fun as => OP (g as) Q := by
  show WPb (cs fs ρ >>= fun a => ofO (g a)) Q = _
  rw [b_WP_bind]; congr 1; funext a; exact b_WP_ofO Q
end
section
variable {ρ : Env} {N B C : Env → Prop} {R : D → Prop} {f k v : Env → Res D} {fs : List (Env → Res D)} {a b : Cmd}
theorem WFb.imp {r : Fl} {N' B' C' : Env → Prop} {R' : D → Prop} (h : WFb r N B C R) (n : ∀ ρ, N ρ → N' ρ) (bb : ∀ ρ, B ρ → B' ρ) (c : ∀ ρ, C ρ → C' ρ) (rr : ∀ d, R d → R' d) : WFb r N' B' C' R' := by
  cases r with
  | next ρ => exact n ρ h
  | ret d => exact rr d h
  | brk ρ => exact bb ρ h
  | cnt ρ => exact c ρ h
  | exc x => exact h
  | bad => exact h
theorem b_WF_of {α : Type} {r : Res α} {g : α → Fl} : WFb (Fl.of r g) N B C R = WPb r fun x => WFb (g x) N B C R := by cases r <;> rfl
theorem b_wf_next : WFb (cNext ρ) N B C R = N ρ := rfl
theorem b_wf_brk : WFb (cBrk ρ) N B C R = B ρ := rfl
theorem b_wf_cnt : WFb (cCnt ρ) N B C R = C ρ := rfl
theorem b_wf_retN : WFb (cRetN ρ) N B C R = R .none := rfl
theorem b_wf_seq : WFb (cSeqS a b ρ) N B C R = WFb (a ρ) (fun ρ' => WFb (b ρ') N B C R) B C R := by
  unfold cSeqS
  cases a ρ <;> rfl
theorem b_wf_ret : WFb (cRet f ρ) N B C R = WPb (f ρ) R := b_WF_of
theorem b_wf_drop : WFb (cDrop f ρ) N B C R = WPb (f ρ) fun _ => N ρ := b_WF_of
theorem b_wf_asg (i : Nat) : WFb (cAsg false [i] f ρ) N B C R = WPb (f ρ) fun d => N (ρ.set i (some d)) := b_WF_of
theorem b_wf_asgT (is : List Nat) : WFb (cAsg true is f ρ) N B C R = WPb (f ρ) fun d => TP d fun ds => ds.length = is.length ∧ N (setAll ρ is ds) := by
  show WFb (Fl.of (f ρ) fun d => Fl.of (cTg true is d ρ) .next) N B C R = _
  rw [b_WF_of]; congr 1; funext d
  rw [b_WF_of]
  unfold cTg
  cases d <;> try rfl
  dsimp only [TP]
  split <;> simp [WPb, WFb, *]
theorem b_wf_par (is : List Nat) : WFb (cPar is fs ρ) N B C R = WPb (cs fs ρ) fun ds => N (setAll ρ is ds) := b_WF_of
theorem b_wf_if {c : Env → Res Bool} : WFb (cIfS c a b ρ) N B C R = WPb (c ρ) fun t => if t = true then WFb (a ρ) N B C R else WFb (b ρ) N B C R := by
  show WFb (Fl.of (c ρ) fun t => if t = true then a ρ else b ρ) N B C R = _
  rw [b_WF_of]; congr 1; funext t
  cases t <;> rfl
theorem b_wf_app (i : Nat) : WFb (cAppend i v ρ) N B C R = slotP ρ i fun d => LP d fun xs => WPb (v ρ) fun dv => xs.length < line ∧ N (ρ.set i (some (.list (xs ++ [dv])))) := by
  show WFb (Fl.of (cSlot i ρ) fun d => Fl.of (match d with | .list _ => .ok d | _ => (.bad : Res D)) fun _ => cApp i v ρ) N B C R = _
  rw [b_WF_of, b_wp_slot]
  unfold slotP
  cases e : ρ[i]? with
  | none => rfl
  | some o =>
    cases o with
    | none => rfl
    | some d =>
      dsimp only
      cases d <;> try rfl
      rename_i xs
      show WFb (Fl.of (v ρ) fun dv => cMut i (appG dv) ρ) N B C R = _
      rw [b_WF_of]
      show _ = WPb (v ρ) fun dv => xs.length < line ∧ N (ρ.set i (some (.list (xs ++ [dv]))))
      congr 1; funext dv
      unfold cMut
      rw [e]
      dsimp only [appG]
      split
      · rename_i d' h
        split at h
        · cases h; simp [WFb, *]
        · cases h
      · rename_i h
        split at h
        · cases h
        · simp [WFb, *]
theorem b_wf_setI (i : Nat) : WFb (cSetI i k v ρ) N B C R = WPb (v ρ) fun dv => slotP ρ i fun d => WPb (k ρ) fun dk => OP (setG dk dv d) fun d' => N (ρ.set i (some d')) := by
  show WFb (Fl.of (v ρ) fun dv => Fl.of (cSlot i ρ) fun _ => Fl.of (k ρ) fun dk => cMut i (setG dk dv) ρ) N B C R = _
  rw [b_WF_of]; congr 1; funext dv
  rw [b_WF_of, b_wp_slot]
  unfold slotP
  cases e : ρ[i]? with
  | none => rfl
  | some o =>
    cases o with
    | none => rfl
    | some d =>
      dsimp only
      rw [b_WF_of]; congr 1; funext dk
      unfold cMut
      rw [e]
      dsimp only
      split
      · rename_i d' h; rw [h]; rfl
      · rename_i h; rw [h]; rfl
/-- what a target does -/
def TgP (tup : Bool) (is : List Nat) (d : D) (ρ : Env) (Q : Env → Prop) : Prop := WPb (cTg tup is d ρ) Q
theorem b_tg_name (i : Nat) (d : D) (Q : Env → Prop) : TgP false [i] d ρ Q = Q (ρ.set i (some d)) := rfl
theorem b_tg_tup (is : List Nat) (d : D) (Q : Env → Prop) : TgP true is d ρ Q = TP d fun ds => ds.length = is.length ∧ Q (setAll ρ is ds) := by
  unfold TgP cTg
  cases d <;> try rfl
  dsimp only [TP]
  split <;> simp [WPb, *]
theorem b_forL_wf {tup : Bool} {is : List Nat} {body : Cmd} (I : Nat → Env → Prop) : ∀ (ds : List D) (m : Nat) (ρ : Env), (∀ k d ρ, ds[k]? = some d → I (m + k) ρ → TgP tup is d ρ fun ρ1 => WFb (body ρ1) (I (m + k + 1)) N (I (m + k + 1)) R) → (∀ ρ, I (m + ds.length) ρ → N ρ) → I m ρ →
    WFb (forL tup is body ds ρ) N B C R
  | [], m, ρ, h, hn, hi => hn ρ hi
  | d :: ds, m, ρ, h, hn, hi => by
    have h0 := h 0 d ρ rfl hi
    show WFb (Fl.of (cTg tup is d ρ) fun ρ1 => match body ρ1 with
      | .next ρ2 => forL tup is body ds ρ2
      | .cnt ρ2 => forL tup is body ds ρ2
      | .brk ρ2 => .next ρ2
      | r => r) N B C R
    rw [b_WF_of]
    refine WPb.imp h0 fun ρ1 h1 => ?_
    have go : ∀ ρ2, I (m + 0 + 1) ρ2 → WFb (forL tup is body ds ρ2) N B C R := fun ρ2 h2 =>
      b_forL_wf I ds (m + 1) ρ2 (fun k d ρ hk hI => by
        have := h (k + 1) d ρ (by simpa using hk) (by rw [show m + (k + 1) = m + 1 + k by omega]; exact hI)
        rw [show m + (k + 1) + 1 = m + 1 + k + 1 by omega] at this
        exact this) (fun ρ hI => hn ρ (by rw [List.length_cons, show m + (ds.length + 1) = m + 1 + ds.length by omega]; exact hI)) h2
    cases e : body ρ1 with
    | next ρ2 => rw [e] at h1; exact go ρ2 h1
    | cnt ρ2 => rw [e] at h1; exact go ρ2 h1
    | brk ρ2 => rw [e] at h1; exact h1
    | ret d => rw [e] at h1; exact h1
    | exc x => rw [e] at h1; exact h1
    | bad => rw [e] at h1; exact h1
/-- a loop by its invariant: I k holds ahead of the k-th item -/
theorem b_wf_for {tup : Bool} {is : List Nat} {src : Env → Res (List D)} {body : Cmd} (I : List D → Nat → Env → Prop)
    (h : WPb (src ρ) fun ds => I ds 0 ρ ∧ (∀ k d ρ, ds[k]? = some d → I ds k ρ → TgP tup is d ρ fun ρ1 => WFb (body ρ1) (I ds (k + 1)) N (I ds (k + 1)) R) ∧ ∀ ρ, I ds ds.length ρ → N ρ) : WFb (cFor tup is src body ρ) N B C R := by
  show WFb (Fl.of (src ρ) fun ds => forL tup is body ds ρ) N B C R
  rw [b_WF_of]
  refine WPb.imp h fun ds ⟨h1, h2, h3⟩ => ?_
  exact b_forL_wf (I ds) ds 0 ρ (fun k d ρ hk hI => by
    rw [Nat.zero_add] at hI ⊢
    exact h2 k d ρ hk hI) (fun ρ hI => h3 ρ (by rw [Nat.zero_add] at hI; exact hI)) h1
theorem b_wp_run {m n : Nat} {c : Cmd} {as : List D} {Q : D → Prop} (hl : as.length = m) (h : WFb (c (startE m n as)) (fun _ => Q .none) (fun _ => False) (fun _ => False) Q) : WPb (runF m n c as) Q := by
  unfold runF
  rw [if_pos hl]
  cases e : c (startE m n as) with
  | next ρ => rw [e] at h; exact h
  | ret d => rw [e] at h; exact h
  | brk ρ => rw [e] at h; exact h
  | cnt ρ => rw [e] at h; exact h
  | exc x => rw [e] at h; exact h
  | bad => rw [e] at h; exact h
end
/-! ### comprehensions -/
theorem b_compL_wp {i : Nat} {elt : Env → Res D} {ρ : Env} {P : D → D → Prop} : ∀ {ds : List D}, (∀ d ∈ ds, WPb (elt (ρ.set i (some d))) (P d)) → WPb (nx (compL (cTg false [i]) cYes elt (ρ.set i none) ds)) fun ys => Paired P ds ys
  | [], _ => .nil
  | d :: ds, h => by
    have ih := b_compL_wp (i := i) (elt := elt) (ρ := ρ) (P := P) (ds := ds) fun d' hd => h d' (by simp [hd])
    have h0 := h d (by simp)
    have e : cTg false [i] d (ρ.set i none) = .ok (ρ.set i (some d)) := by
      show Res.ok (setAll (ρ.set i none) [i] [d]) = _
      show Res.ok ((ρ.set i none).set i (some d)) = _
      rw [List.set_set]
    have ec : compL (cTg false [i]) cYes elt (ρ.set i none) (d :: ds) = (cTg false [i] d (ρ.set i none) >>= fun ρ1 => cYes ρ1 >>= fun b => if b = true then (elt ρ1 >>= fun y => compL (cTg false [i]) cYes elt (ρ.set i none) ds >>= fun ys => .ok (y :: ys)) else compL (cTg false [i]) cYes elt (ρ.set i none) ds) := rfl
    rw [ec, e]
    show WPb (nx (elt (ρ.set i (some d)) >>= fun y => compL (cTg false [i]) cYes elt (ρ.set i none) ds >>= fun ys => .ok (y :: ys))) _
    cases e1 : elt (ρ.set i (some d)) with
    | exc x => rw [e1] at h0; exact h0
    | bad => rw [e1] at h0; exact h0
    | ok y =>
      rw [e1] at h0
      cases e2 : compL (cTg false [i]) cYes elt (ρ.set i none) ds with
      | exc x => rw [e2] at ih; exact ih
      | bad => rw [e2] at ih; exact ih
      | ok ys => rw [e2] at ih; exact .cons h0 ih
theorem b_wp_comp {i : Nat} {src : Env → Res (List D)} {elt : Env → Res D} {ρ : Env} {Q : D → Prop} (P : D → D → Prop) (h : WPb (src ρ) fun ds => ds.length ≤ line ∧ (∀ d ∈ ds, WPb (elt (ρ.set i (some d))) (P d)) ∧ ∀ ys, Paired P ds ys → Q (.list ys)) :
    WPb (cComp [i] false [i] src cYes elt ρ) Q := by
  show WPb (src ρ >>= fun ds => if ds.length ≤ line then (nx (compL (cTg false [i]) cYes elt (wipeE ρ [i]) ds) >>= fun ys => .ok (.list ys)) else .bad) Q
  rw [b_WP_bind]
  refine h.imp fun ds ⟨h1, h2, h3⟩ => ?_
  rw [if_pos h1, b_WP_bind]
  exact (b_compL_wp h2).imp fun ys p => h3 ys p
theorem b_paired_map {g : D → D} : ∀ {ds ys : List D}, Paired (fun d y => y = g d) ds ys → ys = ds.map g
  | _, _, .nil => rfl
  | _, _, .cons h r => by rw [h, b_paired_map r]; rfl
theorem b_wp_compM {i : Nat} {src : Env → Res (List D)} {elt : Env → Res D} {ρ : Env} {Q : D → Prop} (g : D → D) (h : WPb (src ρ) fun ds => ds.length ≤ line ∧ (∀ d ∈ ds, WPb (elt (ρ.set i (some d))) fun v => v = g d) ∧ Q (.list (ds.map g))) :
    WPb (cComp [i] false [i] src cYes elt ρ) Q := b_wp_comp (fun d y => y = g d) (h.imp fun ds ⟨h1, h2, h3⟩ => ⟨h1, h2, fun ys p => by rw [b_paired_map p]; exact h3⟩)
theorem b_OP_ite {α : Type} {c : Prop} [Decidable c] {a : α} {Q : α → Prop} : OP (if c then some a else none) Q = (c ∧ Q a) := by
  by_cases h : c
  · rw [if_pos h]; exact propext ⟨fun q => ⟨h, q⟩, fun q => q.2⟩
  · rw [if_neg h]; exact propext ⟨fun q => False.elim q, fun q => absurd q.1 h⟩
/-! ### what the operators make of data -/
section
variable {Q : D → Prop}
theorem b_add_int (a b : Int) : OP (addD (.int a) (.int b)) Q = Q (.int (a + b)) := rfl
theorem b_add_str (a b : Str) : OP (addD (.str a) (.str b)) Q = (a.length + b.length ≤ line ∧ Q (.str (a ++ b))) := b_OP_ite
theorem b_add_list (a b : List D) : OP (addD (.list a) (.list b)) Q = (a.length + b.length ≤ line ∧ Q (.list (a ++ b))) := b_OP_ite
theorem b_add_tup (a b : List D) : OP (addD (.tuple a) (.tuple b)) Q = (a.length + b.length ≤ line ∧ Q (.tuple (a ++ b))) := b_OP_ite
theorem b_sub_int (a b : Int) : OP (subD (.int a) (.int b)) Q = Q (.int (a - b)) := rfl
theorem b_mul_int (a b : Int) : OP (mulD (.int a) (.int b)) Q = ((small64 a || small64 b) = true ∧ Q (.int (a * b))) := b_OP_ite
theorem b_mod_int (a b : Int) : OP (modD (.int a) (.int b)) Q = (0 < b ∧ Q (.int (a % b))) := b_OP_ite
theorem b_fdiv_int (a b : Int) : OP (fdivD (.int a) (.int b)) Q = ((0 < b ∧ b.natAbs.log2 < 9000) ∧ Q (.int (a / b))) := b_OP_ite
theorem b_pow_int (a b : Int) : OP (powD (.int a) (.int b)) Q = ((0 ≤ b ∧ b ≤ 1000000 ∧ a.natAbs < 2 ^ 64) ∧ Q (.int (a ^ b.toNat))) := b_OP_ite
theorem b_lt_int (a b : Int) : OP (ltD (.int a) (.int b)) Q = Q (.bool (decide (a < b))) := rfl
theorem b_le_int (a b : Int) : OP (leD (.int a) (.int b)) Q = Q (.bool (decide (a ≤ b))) := rfl
theorem b_gt_int (a b : Int) : OP (gtD (.int a) (.int b)) Q = Q (.bool (decide (b < a))) := rfl
theorem b_ge_int (a b : Int) : OP (geD (.int a) (.int b)) Q = Q (.bool (decide (b ≤ a))) := rfl
theorem b_eq_int (a b : Int) : OP (eqD (.int a) (.int b)) Q = Q (.bool (decide (a = b))) := rfl
theorem b_eq_str (a b : Str) : OP (eqD (.str a) (.str b)) Q = Q (.bool (decide (a = b))) := rfl
theorem b_ne_int (a b : Int) : OP (neD (.int a) (.int b)) Q = Q (.bool !(decide (a = b))) := rfl
theorem b_ne_str (a b : Str) : OP (neD (.str a) (.str b)) Q = Q (.bool !(decide (a = b))) := rfl
theorem b_neg_int (a : Int) : OP (negD (.int a)) Q = Q (.int (-a)) := rfl
theorem b_abs_int (a : Int) : OP (absG [.int a]) Q = Q (.int (if a < 0 then -a else a)) := rfl
theorem b_int_int (a : Int) : OP (intG [.int a]) Q = Q (.int a) := rfl
theorem b_int_bool (a : Bool) : OP (intG [.bool a]) Q = Q (.int (if a then 1 else 0)) := rfl
theorem b_tup_list (a : List D) : OP (tupG [.list a]) Q = Q (.tuple a) := rfl
theorem b_lst_tup (a : List D) : OP (lstG [.tuple a]) Q = Q (.list a) := rfl
theorem b_lst_list (a : List D) : OP (lstG [.list a]) Q = Q (.list a) := rfl
theorem b_len_str (a : Str) : OP (lenG [.str a]) Q = (a.length ≤ line ∧ Q (.int a.length)) := b_OP_ite
theorem b_len_list (a : List D) : OP (lenG [.list a]) Q = Q (.int a.length) := rfl
theorem b_len_tup (a : List D) : OP (lenG [.tuple a]) Q = Q (.int a.length) := rfl
theorem b_seq_list (a : List D) (Q : List D → Prop) : OP (seqOf (.list a)) Q = Q a := rfl
theorem b_seq_tup (a : List D) (Q : List D → Prop) : OP (seqOf (.tuple a)) Q = Q a := rfl
theorem b_seq_str (a : Str) (Q : List D → Prop) : OP (seqOf (.str a)) Q = Q (signs a) := rfl
theorem b_rng1_int (a : Int) (Q : List D → Prop) : OP (rng1 [.int a]) Q = (in62 a = true ∧ Q (rangeD 0 a.toNat)) := b_OP_ite
theorem b_rng2_int (a b : Int) (Q : List D → Prop) : OP (rng2 [.int a, .int b]) Q = ((in62 a && in62 b) = true ∧ Q (rangeD a (b - a).toNat)) := b_OP_ite
theorem b_sl_list (a : List D) (l h : Option Int) : OP (slD (.list a) l h) Q = Q (.list (cutD a l h)) := rfl
theorem b_sl_tup (a : List D) (l h : Option Int) : OP (slD (.tuple a) l h) Q = Q (.tuple (cutD a l h)) := rfl
theorem b_sl_str (a : Str) (l h : Option Int) : OP (slD (.str a) l h) Q = (a.length ≤ line ∧ Q (.str (L2.cutS a l h))) := b_OP_ite
theorem b_rev_list (a : List D) : OP (revD (.list a)) Q = Q (.list a.reverse) := rfl
theorem b_rev_tup (a : List D) : OP (revD (.tuple a)) Q = Q (.tuple a.reverse) := rfl
theorem b_upper_str (a : Str) : OP (upperD (.str a)) Q = (a.length ≤ 5592405 ∧ Q (.str (Txt.upper a))) := b_OP_ite
/-- an item in range -/
theorem b_ix_list {a : List D} {i : Int} (h : ∃ j : Nat, i = (j : Int) ∧ ∃ d, a[j]? = some d ∧ Q d) : OP (ixD (.list a) (.int i)) Q := by
  obtain ⟨j, rfl, d, h1, h2⟩ := h
  have hl : j < a.length := (List.getElem?_eq_some_iff.mp h1).1
  show OP (L2.atI a (j : Int)) Q
  unfold L2.atI L2.ixN
  rw [if_pos (by omega), if_pos (by omega)]
  show OP (a[(j : Int).toNat]?) Q
  rw [Int.toNat_natCast, h1]
  exact h2
theorem b_ix_tup {a : List D} {i : Int} (h : ∃ j : Nat, i = (j : Int) ∧ ∃ d, a[j]? = some d ∧ Q d) : OP (ixD (.tuple a) (.int i)) Q := b_ix_list h
theorem b_ix_all {a : List D} {i : Int} (h0 : 0 ≤ i) (h1 : i < a.length) (h : ∀ d ∈ a, Q d) : OP (ixD (.list a) (.int i)) Q := by
  have hl : i.toNat < a.length := by omega
  exact b_ix_list ⟨i.toNat, by omega, a[i.toNat], List.getElem?_eq_getElem hl, h _ (List.getElem_mem hl)⟩
theorem b_ix_allT {a : List D} {i : Int} (h0 : 0 ≤ i) (h1 : i < a.length) (h : ∀ d ∈ a, Q d) : OP (ixD (.tuple a) (.int i)) Q := b_ix_all h0 h1 h
theorem b_ix_str {a : Str} {i : Int} (hz : a.length ≤ line) (h0 : 0 ≤ i) (h1 : i < a.length) (h : ∀ c, Q (.str ⟨#[c]⟩)) : OP (ixD (.str a) (.int i)) Q := by
  have hl : i.toNat < a.cps.toList.length := by rw [Array.length_toList]; have : (a.length : Int) = (a.cps.size : Int) := rfl; omega
  show OP (if a.length ≤ line then (L2.atI a.cps.toList i).map fun c => .str ⟨#[c]⟩ else none) Q
  rw [if_pos hz]
  unfold L2.atI L2.ixN
  rw [if_pos h0, if_pos (by rw [Array.length_toList]; exact h1)]
  show OP ((a.cps.toList[i.toNat]?).map fun c => PyData.str ⟨#[c]⟩) Q
  rw [List.getElem?_eq_getElem hl]
  exact h _
end
end Ev

set_option Elab.async false
set_option linter.all false
set_option maxRecDepth 100000
set_option maxHeartbeats 4000000
/-! The plain rules, closed against unfolding. -/
namespace Ev
open PySem

structure WP {α : Type} (r : Res α) (Q : α → Prop) : Prop where
  get : WPb r Q
structure WF (r : Fl) (N B C : Env → Prop) (R : D → Prop) : Prop where
  get : WFb r N B C R
theorem WP_iff {α : Type} {r : Res α} {Q : α → Prop} : WP r Q = WPb r Q := propext ⟨fun h => h.get, fun h => ⟨h⟩⟩
theorem WF_iff {r : Fl} {N B C : Env → Prop} {R : D → Prop} : WF r N B C R = WFb r N B C R := propext ⟨fun h => h.get, fun h => ⟨h⟩⟩
section
variable {α β : Type} {Q : α → Prop} {ρ : Env} {P : D → Prop} {f h k : Env → Res D} {fs : List (Env → Res D)}
theorem wp_ok (a : α) (Q : α → Prop) : WP (.ok a) Q = Q a := by
  simp only [WP_iff, WF_iff]
  apply b_wp_ok
theorem op_some (a : α) (Q : α → Prop) : OP (some a) Q = Q a := by
  apply b_op_some
theorem op_none (Q : α → Prop) : OP none Q = False := by
  apply b_op_none
theorem bp_bool (b : Bool) (Q : Bool → Prop) : BP (.bool b) Q = Q b := by
  apply b_bp_bool
theorem ip_int (b : Int) (Q : Int → Prop) : IP (.int b) Q = Q b := by
  apply b_ip_int
theorem lp_list (b : List D) (Q : List D → Prop) : LP (.list b) Q = Q b := by
  apply b_lp_list
theorem tp_tup (b : List D) (Q : List D → Prop) : TP (.tuple b) Q = Q b := by
  apply b_tp_tup
theorem slot_0 (d : D) (r : Env) (Q : D → Prop) : slotP (some d :: r) 0 Q = Q d := by
  apply b_slot_0
theorem slot_s (o : Option D) (r : Env) (i : Nat) (Q : D → Prop) : slotP (o :: r) (i + 1) Q = slotP r i Q := by
  apply b_slot_s
theorem WP_bind {r : Res β} {g : β → Res α} (Q : α → Prop) : WP (r >>= g) Q = WP r fun a => WP (g a) Q := by
  simp only [WP_iff, WF_iff]
  apply b_WP_bind
theorem WP_ofO {o : Option α} (Q : α → Prop) : WP (ofO o) Q = OP o Q := by
  simp only [WP_iff, WF_iff]
  apply b_WP_ofO
theorem WP_asB {d : D} (Q : Bool → Prop) : WP (asB d) Q = BP d Q := by
  simp only [WP_iff, WF_iff]
  apply b_WP_asB
theorem WP_cB (Q : Bool → Prop) : WP (cB f ρ) Q = WP (f ρ) fun d => BP d Q := by
  simp only [WP_iff, WF_iff]
  apply b_WP_cB
theorem wp_slot (i : Nat) (Q : D → Prop) : WP (cSlot i ρ) Q = slotP ρ i Q := by
  simp only [WP_iff, WF_iff]
  apply b_wp_slot
theorem wp_lit (d : D) (Q : D → Prop) : WP (cLit d ρ) Q = Q d := by
  simp only [WP_iff, WF_iff]
  apply b_wp_lit
theorem wp_c1 (g : D → Option D) (Q : D → Prop) : WP (c1 g f ρ) Q = WP (f ρ) fun a => OP (g a) Q := by
  simp only [WP_iff, WF_iff]
  apply b_wp_c1
theorem wp_c2 (g : D → D → Option D) (Q : D → Prop) : WP (c2 g f h ρ) Q = WP (f ρ) fun a => WP (h ρ) fun b => OP (g a b) Q := by
  simp only [WP_iff, WF_iff]
  apply b_wp_c2
theorem wp_nil (Q : List D → Prop) : WP (cs [] ρ) Q = Q [] := by
  simp only [WP_iff, WF_iff]
  apply b_wp_nil
theorem wp_cons (Q : List D → Prop) : WP (cs (f :: fs) ρ) Q = WP (f ρ) fun a => WP (cs fs ρ) fun as => Q (a :: as) := by
  simp only [WP_iff, WF_iff]
  apply b_wp_cons
theorem wp_cN (g : List D → Option D) (Q : D → Prop) : WP (cN g fs ρ) Q = WP (cs fs ρ) fun as => OP (g as) Q := by
  simp only [WP_iff, WF_iff]
  apply b_wp_cN
theorem wp_and (Q : D → Prop) : WP (cAnd f h ρ) Q = WP (f ρ) fun d => BP d fun b => if b = true then WP (h ρ) Q else Q (.bool false) := by
  simp only [WP_iff, WF_iff]
  apply b_wp_and
theorem wp_or (Q : D → Prop) : WP (cOr f h ρ) Q = WP (f ρ) fun d => BP d fun b => if b = true then Q (.bool true) else WP (h ρ) Q := by
  simp only [WP_iff, WF_iff]
  apply b_wp_or
theorem wp_not (Q : D → Prop) : WP (cNot f ρ) Q = WP (f ρ) fun d => BP d fun b => Q (.bool !b) := by
  simp only [WP_iff, WF_iff]
  apply b_wp_not
theorem wp_if (Q : D → Prop) : WP (cIf k f h ρ) Q = WP (k ρ) fun d => BP d fun b => if b = true then WP (f ρ) Q else WP (h ρ) Q := by
  simp only [WP_iff, WF_iff]
  apply b_wp_if
theorem wp_tup (Q : D → Prop) : WP (cTup fs ρ) Q = WP (cs fs ρ) fun as => as.length ≤ line ∧ Q (.tuple as) := by
  simp only [WP_iff, WF_iff]
  apply b_wp_tup
theorem wp_lst (Q : D → Prop) : WP (cLst fs ρ) Q = WP (cs fs ρ) fun as => as.length ≤ line ∧ Q (.list as) := by
  simp only [WP_iff, WF_iff]
  apply b_wp_lst
theorem wp_chain (g g' : D → D → Option D) (Q : D → Prop) : WP (cChain g g' f h k ρ) Q = WP (f ρ) fun a => WP (h ρ) fun b => OP (g a b) fun z => BP z fun t => if t = true then WP (k ρ) fun c => OP (g' b c) Q else Q (.bool false) := by
  simp only [WP_iff, WF_iff]
  apply b_wp_chain
theorem wp_isi (T : String) (Q : D → Prop) : WP (cIsi f T ρ) Q = WP (f ρ) fun d => Q (.bool (isiB d T)) := by
  simp only [WP_iff, WF_iff]
  apply b_wp_isi
theorem wp_part0 (Q : Option Int → Prop) : WP (cPart none ρ) Q = Q none := by
  simp only [WP_iff, WF_iff]
  apply b_wp_part0
theorem wp_part (Q : Option Int → Prop) : WP (cPart (some f) ρ) Q = WP (f ρ) fun d => IP d fun i => Q (some i) := by
  simp only [WP_iff, WF_iff]
  apply b_wp_part
theorem wp_sl (l u : Option (Env → Res D)) (Q : D → Prop) : WP (cSl f l u ρ) Q = WP (f ρ) fun a => WP (cPart l ρ) fun lo => WP (cPart u ρ) fun hi => OP (slD a lo hi) Q := by
  simp only [WP_iff, WF_iff]
  apply b_wp_sl
theorem wp_call (fn : Nat → List D → Res D) (i : Nat) (Q : D → Prop) : WP (cCall fn i fs ρ) Q = WP (cs fs ρ) fun as => WP (fn i as) Q := by
  simp only [WP_iff, WF_iff]
  apply b_wp_call
theorem wp_seq (Q : List D → Prop) : WP (cSeq f ρ) Q = WP (f ρ) fun d => OP (seqOf d) Q := by
  simp only [WP_iff, WF_iff]
  apply b_wp_seq
theorem wp_src (g : List D → Option (List D)) (Q : List D → Prop) : WP (cSrc g fs ρ) Q = WP (cs fs ρ) fun as => OP (g as) Q := by
  simp only [WP_iff, WF_iff]
  apply b_wp_src
end
section
variable {ρ : Env} {N B C : Env → Prop} {R : D → Prop} {f k v : Env → Res D} {fs : List (Env → Res D)} {a b : Cmd}
theorem WF_of {α : Type} {r : Res α} {g : α → Fl} : WF (Fl.of r g) N B C R = WP r fun x => WF (g x) N B C R := by
  simp only [WP_iff, WF_iff]
  apply b_WF_of
theorem wf_next : WF (cNext ρ) N B C R = N ρ := by
  simp only [WP_iff, WF_iff]
  apply b_wf_next
theorem wf_brk : WF (cBrk ρ) N B C R = B ρ := by
  simp only [WP_iff, WF_iff]
  apply b_wf_brk
theorem wf_cnt : WF (cCnt ρ) N B C R = C ρ := by
  simp only [WP_iff, WF_iff]
  apply b_wf_cnt
theorem wf_retN : WF (cRetN ρ) N B C R = R .none := by
  simp only [WP_iff, WF_iff]
  apply b_wf_retN
theorem wf_seq : WF (cSeqS a b ρ) N B C R = WF (a ρ) (fun ρ' => WF (b ρ') N B C R) B C R := by
  simp only [WP_iff, WF_iff]
  apply b_wf_seq
theorem wf_ret : WF (cRet f ρ) N B C R = WP (f ρ) R := by
  simp only [WP_iff, WF_iff]
  apply b_wf_ret
theorem wf_drop : WF (cDrop f ρ) N B C R = WP (f ρ) fun _ => N ρ := by
  simp only [WP_iff, WF_iff]
  apply b_wf_drop
theorem wf_asg (i : Nat) : WF (cAsg false [i] f ρ) N B C R = WP (f ρ) fun d => N (ρ.set i (some d)) := by
  simp only [WP_iff, WF_iff]
  apply b_wf_asg
theorem wf_asgT (is : List Nat) : WF (cAsg true is f ρ) N B C R = WP (f ρ) fun d => TP d fun ds => ds.length = is.length ∧ N (setAll ρ is ds) := by
  simp only [WP_iff, WF_iff]
  apply b_wf_asgT
theorem wf_par (is : List Nat) : WF (cPar is fs ρ) N B C R = WP (cs fs ρ) fun ds => N (setAll ρ is ds) := by
  simp only [WP_iff, WF_iff]
  apply b_wf_par
theorem wf_if {c : Env → Res Bool} : WF (cIfS c a b ρ) N B C R = WP (c ρ) fun t => if t = true then WF (a ρ) N B C R else WF (b ρ) N B C R := by
  simp only [WP_iff, WF_iff]
  apply b_wf_if
theorem wf_app (i : Nat) : WF (cAppend i v ρ) N B C R = slotP ρ i fun d => LP d fun xs => WP (v ρ) fun dv => xs.length < line ∧ N (ρ.set i (some (.list (xs ++ [dv])))) := by
  simp only [WP_iff, WF_iff]
  apply b_wf_app
theorem wf_setI (i : Nat) : WF (cSetI i k v ρ) N B C R = WP (v ρ) fun dv => slotP ρ i fun d => WP (k ρ) fun dk => OP (setG dk dv d) fun d' => N (ρ.set i (some d')) := by
  simp only [WP_iff, WF_iff]
  apply b_wf_setI
theorem tg_name (i : Nat) (d : D) (Q : Env → Prop) : TgP false [i] d ρ Q = Q (ρ.set i (some d)) := by
  apply b_tg_name
theorem tg_tup (is : List Nat) (d : D) (Q : Env → Prop) : TgP true is d ρ Q = TP d fun ds => ds.length = is.length ∧ Q (setAll ρ is ds) := by
  apply b_tg_tup
end
section
variable {Q : D → Prop}
theorem add_int (a b : Int) : OP (addD (.int a) (.int b)) Q = Q (.int (a + b)) := by
  apply b_add_int
theorem add_str (a b : Str) : OP (addD (.str a) (.str b)) Q = (a.length + b.length ≤ line ∧ Q (.str (a ++ b))) := by
  apply b_add_str
theorem add_list (a b : List D) : OP (addD (.list a) (.list b)) Q = (a.length + b.length ≤ line ∧ Q (.list (a ++ b))) := by
  apply b_add_list
theorem add_tup (a b : List D) : OP (addD (.tuple a) (.tuple b)) Q = (a.length + b.length ≤ line ∧ Q (.tuple (a ++ b))) := by
  apply b_add_tup
theorem sub_int (a b : Int) : OP (subD (.int a) (.int b)) Q = Q (.int (a - b)) := by
  apply b_sub_int
theorem mul_int (a b : Int) : OP (mulD (.int a) (.int b)) Q = ((small64 a || small64 b) = true ∧ Q (.int (a * b))) := by
  apply b_mul_int
theorem mod_int (a b : Int) : OP (modD (.int a) (.int b)) Q = (0 < b ∧ Q (.int (a % b))) := by
  apply b_mod_int
theorem fdiv_int (a b : Int) : OP (fdivD (.int a) (.int b)) Q = ((0 < b ∧ b.natAbs.log2 < 9000) ∧ Q (.int (a / b))) := by
  apply b_fdiv_int
theorem pow_int (a b : Int) : OP (powD (.int a) (.int b)) Q = ((0 ≤ b ∧ b ≤ 1000000 ∧ a.natAbs < 2 ^ 64) ∧ Q (.int (a ^ b.toNat))) := by
  apply b_pow_int
theorem lt_int (a b : Int) : OP (ltD (.int a) (.int b)) Q = Q (.bool (decide (a < b))) := by
  apply b_lt_int
theorem le_int (a b : Int) : OP (leD (.int a) (.int b)) Q = Q (.bool (decide (a ≤ b))) := by
  apply b_le_int
theorem gt_int (a b : Int) : OP (gtD (.int a) (.int b)) Q = Q (.bool (decide (b < a))) := by
  apply b_gt_int
theorem ge_int (a b : Int) : OP (geD (.int a) (.int b)) Q = Q (.bool (decide (b ≤ a))) := by
  apply b_ge_int
theorem eq_int (a b : Int) : OP (eqD (.int a) (.int b)) Q = Q (.bool (decide (a = b))) := by
  apply b_eq_int
theorem eq_str (a b : Str) : OP (eqD (.str a) (.str b)) Q = Q (.bool (decide (a = b))) := by
  apply b_eq_str
theorem ne_int (a b : Int) : OP (neD (.int a) (.int b)) Q = Q (.bool !(decide (a = b))) := by
  apply b_ne_int
theorem ne_str (a b : Str) : OP (neD (.str a) (.str b)) Q = Q (.bool !(decide (a = b))) := by
  apply b_ne_str
theorem neg_int (a : Int) : OP (negD (.int a)) Q = Q (.int (-a)) := by
  apply b_neg_int
theorem abs_int (a : Int) : OP (absG [.int a]) Q = Q (.int (if a < 0 then -a else a)) := by
  apply b_abs_int
theorem int_int (a : Int) : OP (intG [.int a]) Q = Q (.int a) := by
  apply b_int_int
theorem int_bool (a : Bool) : OP (intG [.bool a]) Q = Q (.int (if a then 1 else 0)) := by
  apply b_int_bool
theorem tup_list (a : List D) : OP (tupG [.list a]) Q = Q (.tuple a) := by
  apply b_tup_list
theorem lst_tup (a : List D) : OP (lstG [.tuple a]) Q = Q (.list a) := by
  apply b_lst_tup
theorem lst_list (a : List D) : OP (lstG [.list a]) Q = Q (.list a) := by
  apply b_lst_list
theorem len_str (a : Str) : OP (lenG [.str a]) Q = (a.length ≤ line ∧ Q (.int a.length)) := by
  apply b_len_str
theorem len_list (a : List D) : OP (lenG [.list a]) Q = Q (.int a.length) := by
  apply b_len_list
theorem len_tup (a : List D) : OP (lenG [.tuple a]) Q = Q (.int a.length) := by
  apply b_len_tup
theorem seq_list (a : List D) (Q : List D → Prop) : OP (seqOf (.list a)) Q = Q a := by
  apply b_seq_list
theorem seq_tup (a : List D) (Q : List D → Prop) : OP (seqOf (.tuple a)) Q = Q a := by
  apply b_seq_tup
theorem seq_str (a : Str) (Q : List D → Prop) : OP (seqOf (.str a)) Q = Q (signs a) := by
  apply b_seq_str
theorem rng1_int (a : Int) (Q : List D → Prop) : OP (rng1 [.int a]) Q = (in62 a = true ∧ Q (rangeD 0 a.toNat)) := by
  apply b_rng1_int
theorem rng2_int (a b : Int) (Q : List D → Prop) : OP (rng2 [.int a, .int b]) Q = ((in62 a && in62 b) = true ∧ Q (rangeD a (b - a).toNat)) := by
  apply b_rng2_int
theorem sl_list (a : List D) (l h : Option Int) : OP (slD (.list a) l h) Q = Q (.list (cutD a l h)) := by
  apply b_sl_list
theorem sl_tup (a : List D) (l h : Option Int) : OP (slD (.tuple a) l h) Q = Q (.tuple (cutD a l h)) := by
  apply b_sl_tup
theorem sl_str (a : Str) (l h : Option Int) : OP (slD (.str a) l h) Q = (a.length ≤ line ∧ Q (.str (L2.cutS a l h))) := by
  apply b_sl_str
theorem rev_list (a : List D) : OP (revD (.list a)) Q = Q (.list a.reverse) := by
  apply b_rev_list
theorem rev_tup (a : List D) : OP (revD (.tuple a)) Q = Q (.tuple a.reverse) := by
  apply b_rev_tup
theorem upper_str (a : Str) : OP (upperD (.str a)) Q = (a.length ≤ 5592405 ∧ Q (.str (Txt.upper a))) := by
  apply b_upper_str
end
section
variable {α : Type} {Q : α → Prop} {ρ : Env}
theorem WP.imp {r : Res α} {Q' : α → Prop} (h : WP r Q) (i : ∀ a, Q a → Q' a) : WP r Q' := ⟨WPb.imp h.get i⟩
theorem WP.ok {r : Res α} {a : α} (h : WP r fun x => x = a) : r = .ok a := WPb.ok h.get
theorem wp_of {r : Res α} {a : α} (h : r = .ok a) (q : Q a) : WP r Q := ⟨b_wp_of h q⟩
theorem WF.imp {r : Fl} {N B C N' B' C' : Env → Prop} {R R' : D → Prop} (h : WF r N B C R) (n : ∀ ρ, N ρ → N' ρ) (bb : ∀ ρ, B ρ → B' ρ) (c : ∀ ρ, C ρ → C' ρ) (rr : ∀ d, R d → R' d) : WF r N' B' C' R' := ⟨WFb.imp h.get n bb c rr⟩
theorem wf_for {N B C : Env → Prop} {R : D → Prop} {tup : Bool} {is : List Nat} {src : Env → Res (List D)} {body : Cmd} (I : List D → Nat → Env → Prop)
    (h : WP (src ρ) fun ds => I ds 0 ρ ∧ (∀ k d ρ, ds[k]? = some d → I ds k ρ → TgP tup is d ρ fun ρ1 => WF (body ρ1) (I ds (k + 1)) N (I ds (k + 1)) R) ∧ ∀ ρ, I ds ds.length ρ → N ρ) : WF (cFor tup is src body ρ) N B C R := by
  simp only [WP_iff, WF_iff] at h ⊢
  exact b_wf_for I h
theorem wp_run {m n : Nat} {c : Cmd} {as : List D} {Q : D → Prop} (hl : as.length = m) (h : WF (c (startE m n as)) (fun _ => Q .none) (fun _ => False) (fun _ => False) Q) : WP (runF m n c as) Q := ⟨b_wp_run hl h.get⟩
theorem wp_comp {i : Nat} {src : Env → Res (List D)} {elt : Env → Res D} {Q : D → Prop} (P : D → D → Prop) (h : WP (src ρ) fun ds => ds.length ≤ line ∧ (∀ d ∈ ds, WP (elt (ρ.set i (some d))) (P d)) ∧ ∀ ys, Paired P ds ys → Q (.list ys)) :
    WP (cComp [i] false [i] src cYes elt ρ) Q := by
  simp only [WP_iff] at h ⊢
  exact b_wp_comp P h
theorem wp_compM {i : Nat} {src : Env → Res (List D)} {elt : Env → Res D} {Q : D → Prop} (g : D → D) (h : WP (src ρ) fun ds => ds.length ≤ line ∧ (∀ d ∈ ds, WP (elt (ρ.set i (some d))) fun v => v = g d) ∧ Q (.list (ds.map g))) :
    WP (cComp [i] false [i] src cYes elt ρ) Q := by
  simp only [WP_iff] at h ⊢
  exact b_wp_compM g h
end
section
variable {Q : D → Prop}
theorem ix_list {a : List D} {i : Int} (h : ∃ j : Nat, i = (j : Int) ∧ ∃ d, a[j]? = some d ∧ Q d) : OP (ixD (.list a) (.int i)) Q := b_ix_list h
theorem ix_tup {a : List D} {i : Int} (h : ∃ j : Nat, i = (j : Int) ∧ ∃ d, a[j]? = some d ∧ Q d) : OP (ixD (.tuple a) (.int i)) Q := b_ix_tup h
theorem ix_all {a : List D} {i : Int} (h0 : 0 ≤ i) (h1 : i < a.length) (h : ∀ d ∈ a, Q d) : OP (ixD (.list a) (.int i)) Q := b_ix_all h0 h1 h
theorem ix_allT {a : List D} {i : Int} (h0 : 0 ≤ i) (h1 : i < a.length) (h : ∀ d ∈ a, Q d) : OP (ixD (.tuple a) (.int i)) Q := b_ix_allT h0 h1 h
theorem ix_str {a : Str} {i : Int} (hz : a.length ≤ line) (h0 : 0 ≤ i) (h1 : i < a.length) (h : ∀ c, Q (.str ⟨#[c]⟩)) : OP (ixD (.str a) (.int i)) Q := b_ix_str hz h0 h1 h
end
end Ev

set_option Elab.async false
set_option linter.all false
set_option maxRecDepth 100000
set_option maxHeartbeats 4000000
/-! Plain lemmas of use for many laws. -/
namespace Ev
open PySem
theorem cutD_mem {xs : List D} {l h : Option Int} {d : D} (m : d ∈ cutD xs l h) : d ∈ xs := List.mem_of_mem_drop (List.mem_of_mem_take m)
theorem cutD_len (xs : List D) (l h : Option Int) : (cutD xs l h).length ≤ xs.length := cutD_length xs l h
theorem map_int {ns : List Int} {d : D} (m : d ∈ ns.map PyData.int) : ∃ i ∈ ns, d = .int i := by
  obtain ⟨i, h, e⟩ := List.mem_map.mp m
  exact ⟨i, h, e.symm⟩
theorem mem_get {α : Type} {l : List α} {k : Nat} {a : α} (h : l[k]? = some a) : a ∈ l := List.mem_of_getElem? h
theorem range_get {lo : Int} {n k : Nat} {d : D} (h : (rangeD lo n)[k]? = some d) : k < n ∧ d = .int (lo + (k : Nat)) := by
  unfold rangeD at h
  rw [List.getElem?_map] at h
  cases e : (List.range n)[k]? with
  | none => rw [e] at h; cases h
  | some j =>
    rw [e] at h
    obtain ⟨h1, h2⟩ := List.getElem?_eq_some_iff.mp e
    rw [List.getElem_range] at h2
    subst h2
    cases h
    exact ⟨by simpa using h1, rfl⟩
theorem range_mem {lo : Int} {n : Nat} {d : D} (h : d ∈ rangeD lo n) : ∃ k < n, d = .int (lo + (k : Nat)) := by
  unfold rangeD at h
  obtain ⟨k, h1, h2⟩ := List.mem_map.mp h
  exact ⟨k, by simpa using h1, h2.symm⟩
theorem range_len (lo : Int) (n : Nat) : (rangeD lo n).length = n := by simp [rangeD]
theorem small_of {i : Int} (h0 : -18446744073709551616 < i) (h1 : i < 18446744073709551616) : small64 i = true := by
  unfold small64
  rw [Bool.and_eq_true, decide_eq_true_eq, decide_eq_true_eq]
  exact ⟨by simpa using h0, by simpa using h1⟩
theorem in62_nat {n : Nat} (h : n ≤ 1000000000) : in62 (n : Int) = true := by
  unfold in62
  rw [Bool.and_eq_true, decide_eq_true_eq, decide_eq_true_eq]
  constructor <;> omega
theorem in62_of' {i : Int} (h0 : -1000000000 ≤ i) (h : i ≤ 1000000000) : in62 i = true := by
  unfold in62
  rw [Bool.and_eq_true, decide_eq_true_eq, decide_eq_true_eq]
  constructor <;> omega
theorem all_map {gb : D → Bool} {ds : List D} {Q : D → Prop} : OP (allG [.list (ds.map fun d => .bool (gb d))]) Q = Q (.bool (ds.all gb)) := by
  have e : ∀ ds : List D, boolsOf (ds.map fun d => .bool (gb d)) = some (ds.map gb) := by
    intro ds
    induction ds with
    | nil => rfl
    | cons d ds ih => simp [boolsOf, ih]
  unfold allG
  dsimp only
  rw [e]
  show Q (.bool ((ds.map gb).all id)) = _
  rw [List.all_map]; rfl
theorem any_map {gb : D → Bool} {ds : List D} {Q : D → Prop} : OP (anyG [.list (ds.map fun d => .bool (gb d))]) Q = Q (.bool (ds.any gb)) := by
  have e : ∀ ds : List D, boolsOf (ds.map fun d => .bool (gb d)) = some (ds.map gb) := by
    intro ds
    induction ds with
    | nil => rfl
    | cons d ds ih => simp [boolsOf, ih]
  unfold anyG
  dsimp only
  rw [e]
  show Q (.bool ((ds.map gb).any id)) = _
  rw [List.any_map]; rfl
theorem in_str (a b : Str) (Q : D → Prop) : OP (inD (.str a) (.str b)) Q = Q (.bool (inS a b)) := nr rfl
theorem signs_mem {z : Str} {d : D} (h : d ∈ signs z) : ∃ c, d = .str ⟨#[c]⟩ := by
  obtain ⟨c, _, e⟩ := List.mem_map.mp h
  exact ⟨c, e.symm⟩
theorem signs_len (z : Str) : (signs z).length = z.length := by
  unfold signs
  rw [List.length_map, Array.length_toList]; rfl
theorem atI_nat {α : Type} {a : List α} {j : Nat} {d : α} (h : a[j]? = some d) : L2.atI a (j : Int) = some d := by
  have hl : j < a.length := (List.getElem?_eq_some_iff.mp h).1
  unfold L2.atI L2.ixN
  rw [if_pos (by omega), if_pos (by omega)]
  show a[(j : Int).toNat]? = some d
  rw [Int.toNat_natCast, h]
section
variable {x a b c : D} {r : List D} {Q : D → Prop}
theorem ixt0 : OP (ixD (.tuple (x :: r)) (.int 0)) Q = Q x := by
  show OP (L2.atI (x :: r) ((0 : Nat) : Int)) Q = Q x
  rw [atI_nat (d := x) rfl]; rfl
theorem ixt1 : OP (ixD (.tuple (x :: a :: r)) (.int 1)) Q = Q a := by
  show OP (L2.atI (x :: a :: r) ((1 : Nat) : Int)) Q = Q a
  rw [atI_nat (d := a) rfl]; rfl
theorem ixt2 : OP (ixD (.tuple (x :: a :: b :: r)) (.int 2)) Q = Q b := by
  show OP (L2.atI (x :: a :: b :: r) ((2 : Nat) : Int)) Q = Q b
  rw [atI_nat (d := b) rfl]; rfl
theorem ixt3 : OP (ixD (.tuple (x :: a :: b :: c :: r)) (.int 3)) Q = Q c := by
  show OP (L2.atI (x :: a :: b :: c :: r) ((3 : Nat) : Int)) Q = Q c
  rw [atI_nat (d := c) rfl]; rfl
theorem ixl0 : OP (ixD (.list (x :: r)) (.int 0)) Q = Q x := ixt0
theorem ixl1 : OP (ixD (.list (x :: a :: r)) (.int 1)) Q = Q a := ixt1
theorem ixl2 : OP (ixD (.list (x :: a :: b :: r)) (.int 2)) Q = Q b := ixt2
theorem ixl3 : OP (ixD (.list (x :: a :: b :: c :: r)) (.int 3)) Q = Q c := ixt3
end
/-- data whose texts and sequences are no longer than m -/
inductive Wf (m : Nat) : D → Prop
  | none : Wf m .none
  | bool (b : Bool) : Wf m (.bool b)
  | int (i : Int) : Wf m (.int i)
  | str {z : Str} : z.length ≤ m → Wf m (.str z)
  | tup {xs : List D} : xs.length ≤ m → (∀ x ∈ xs, Wf m x) → Wf m (.tuple xs)
  | lst {xs : List D} : xs.length ≤ m → (∀ x ∈ xs, Wf m x) → Wf m (.list xs)
  | dic0 : Wf m (.dict [])
theorem Wf.mono {m k : Nat} (h : m ≤ k) {d : D} (w : Wf m d) : Wf k d := by
  induction w with
  | none => exact .none
  | bool b => exact .bool b
  | int i => exact .int i
  | str h1 => exact .str (Nat.le_trans h1 h)
  | tup h1 _ ih => exact .tup (Nat.le_trans h1 h) ih
  | lst h1 _ ih => exact .lst (Nat.le_trans h1 h) ih
  | dic0 => exact .dic0
end Ev

set_option Elab.async false
set_option linter.all false
set_option maxRecDepth 100000
set_option maxHeartbeats 4000000
/-! Plain lemmas: data looked at by a test, shapes. -/
namespace Ev
open PySem
/-- a look at written data -/
def wfb (m : Nat) : Nat → D → Bool
  | _, .none => true
  | _, .bool _ => true
  | _, .int _ => true
  | _, .str z => decide (z.length ≤ m)
  | k + 1, .tuple xs => decide (xs.length ≤ m) && xs.all (wfb m k)
  | k + 1, .list xs => decide (xs.length ≤ m) && xs.all (wfb m k)
  | _, .dict [] => true
  | _, _ => false
theorem wfb_ok {m : Nat} : ∀ {k : Nat} {d : D}, wfb m k d = true → Wf m d := by
  intro k
  induction k with
  | zero =>
    intro d h
    cases d with
    | none => exact .none
    | bool b => exact .bool b
    | int i => exact .int i
    | str z => exact .str (by simpa [wfb] using h)
    | tuple xs => simp [wfb] at h
    | list xs => simp [wfb] at h
    | dict es =>
      cases es with
      | nil => exact .dic0
      | cons e es => simp [wfb] at h
  | succ k ih =>
    intro d h
    cases d with
    | none => exact .none
    | bool b => exact .bool b
    | int i => exact .int i
    | str z => exact .str (by simpa [wfb] using h)
    | tuple xs =>
      simp only [wfb, Bool.and_eq_true, decide_eq_true_eq, List.all_eq_true] at h
      exact .tup h.1 fun x hx => ih (h.2 x hx)
    | list xs =>
      simp only [wfb, Bool.and_eq_true, decide_eq_true_eq, List.all_eq_true] at h
      exact .lst h.1 fun x hx => ih (h.2 x hx)
    | dict es =>
      cases es with
      | nil => exact .dic0
      | cons e es => simp [wfb] at h
theorem wfl_ok {m : Nat} (k : Nat) {l : List D} (h : l.all (wfb m k) = true) : ∀ d ∈ l, Wf m d := fun d hd => wfb_ok (List.all_eq_true.mp h d hd)
/-- laid out: texts of real signs, no dicts, no deeper than k -/
def Lay (k : Nat) (d : D) : Prop := d.canLay0 = true ∧ d.depth ≤ k
theorem Lay.all {k : Nat} : ∀ {ys : List D}, (∀ y ∈ ys, Lay k y) → PyData.canLayAll0 ys = true ∧ PyData.depthAll ys ≤ k
  | [], _ => ⟨rfl, Nat.zero_le _⟩
  | y :: ys, h => by
    obtain ⟨h1, h2⟩ := Lay.all fun z hz => h z (List.mem_cons_of_mem _ hz)
    obtain ⟨h3, h4⟩ := h y List.mem_cons_self
    refine ⟨by simp [PyData.canLayAll0, h1, h3], ?_⟩
    simp only [PyData.depthAll]
    omega
theorem Lay.tup {k : Nat} {ys : List D} (h : ∀ y ∈ ys, Lay k y) : Lay (k + 1) (.tuple ys) := by
  obtain ⟨h1, h2⟩ := Lay.all h
  exact ⟨by simp [PyData.canLay0, h1], by simp only [PyData.depth]; omega⟩
theorem Lay.lst {k : Nat} {ys : List D} (h : ∀ y ∈ ys, Lay k y) : Lay (k + 1) (.list ys) := by
  obtain ⟨h1, h2⟩ := Lay.all h
  exact ⟨by simp [PyData.canLay0, h1], by simp only [PyData.depth]; omega⟩
theorem Lay.shaped {k : Nat} {d : D} (h : Lay k d) (hk : k ≤ 64) : SeqAt.shaped d = true := by
  unfold SeqAt.shaped
  rw [Bool.and_eq_true, decide_eq_true_eq]
  exact ⟨h.1, Nat.le_trans h.2 hk⟩
theorem Lay.int (i : Int) (k : Nat) : Lay k (.int i) := ⟨rfl, Nat.zero_le _⟩
theorem Lay.bool (i : Bool) (k : Nat) : Lay k (.bool i) := ⟨rfl, Nat.zero_le _⟩
theorem Lay.str {z : Str} (h : PyData.canLay0 (.str z) = true) (k : Nat) : Lay k (.str z) := ⟨h, Nat.zero_le _⟩
theorem eq_tup0 {y : D} {ys : List D} {Q : D → Prop} (h : SeqAt.shaped (.tuple (y :: ys)) = true) (q : Q (.bool false)) : OP (eqD (.tuple (y :: ys)) (.tuple [])) Q := by
  have e : eqB (.tuple (y :: ys)) (.tuple []) = some false := by
    show (if SeqAt.shaped (.tuple (y :: ys)) = true ∧ SeqAt.shaped (.tuple []) = true then some (PyData.eqv (.tuple (y :: ys)) (.tuple [])) else none) = _
    rw [if_pos ⟨h, by decide⟩]
    simp [PyData.eqv, PyData.eqvAll]
  unfold eqD
  rw [e]
  exact q
theorem eq_tup1 {ys : List D} {Q : D → Prop} (h1 : 1 ≤ ys.length) (h : SeqAt.shaped (.tuple ys) = true) (q : Q (.bool false)) : OP (eqD (.tuple ys) (.tuple [])) Q := by
  cases ys with
  | nil => simp at h1
  | cons y ys => exact eq_tup0 h q
theorem ne_bools2 (a b : Bool) {Q : D → Prop} (q : Q (.bool false)) : OP (neD (.list [.bool a, .bool b]) (.list [.bool a, .bool b])) Q := by
  have e : eqB (.list [.bool a, .bool b]) (.list [.bool a, .bool b]) = some true := by cases a <;> cases b <;> rfl
  unfold neD
  rw [e]
  exact q
theorem cutS_len (z : Str) (l h : Option Int) : (L2.cutS z l h).length ≤ z.length := L2.cutS_length z l h
theorem str_app (a b : Str) : (a ++ b).length = a.length + b.length := by
  show (a.cps ++ b.cps).size = a.cps.size + b.cps.size
  exact Array.size_append
theorem str_one (c : Nat) : (⟨#[c]⟩ : Str).length = 1 := rfl
theorem cutD_ints (ns : List Int) (l h : Option Int) : ∃ ms : List Int, cutD (ns.map PyData.int) l h = ms.map PyData.int := by
  refine ⟨(ns.drop (HT.sIx ns.length 0 l)).take (HT.sIx ns.length ns.length h - HT.sIx ns.length 0 l), ?_⟩
  unfold cutD
  simp [List.map_take, List.map_drop]
theorem cutD_from (xs : List D) (k : Nat) (h : k ≤ xs.length) : cutD xs (some (k : Int)) none = xs.drop k := by
  unfold cutD
  have : HT.sIx xs.length 0 (some (k : Int)) = k := by rw [HT.sIx_nat]; omega
  rw [this, HT.sIx_none]
  exact List.take_of_length_le (by simp)
end Ev

set_option Elab.async false
set_option linter.all false
set_option maxRecDepth 100000
set_option maxHeartbeats 8000000
namespace K06
open PySem L2 Ev
def top (i : Nat) : Stmt := PySem.Challenge.pw_onefolk_k06_what_rules_are.main.body.getD i (.Pass ⟨0, 0, 0, 0⟩)
def d0 : DefD := ⟨"is_name", top 3, ["thing"], ["thing", "sign"]⟩ -- is_name
def d1 : DefD := ⟨"is_number", top 7, ["thing", "least", "most"], ["thing", "least", "most"]⟩ -- is_number
def d2 : DefD := ⟨"is_headed", top 8, ["thing", "word", "size"], ["thing", "word", "size"]⟩ -- is_headed
def d3 : DefD := ⟨"is_rule", top 9, ["thing"], ["thing"]⟩ -- is_rule
def d4 : DefD := ⟨"are_rules", top 10, ["thing"], ["thing", "rule"]⟩ -- are_rules
def d5 : DefD := ⟨"_law_cell", top 12, ["_law_script", "_law_k"], ["_law_script", "_law_k", "_law_state", "_law_cell_here"]⟩ -- _law_cell
def d6 : DefD := ⟨"_law_numbers", top 13, ["_law_cell_here", "_law_many"], ["_law_cell_here", "_law_many", "_law_found", "_law_state", "_law_digits", "_law_k"]⟩ -- _law_numbers
def d7 : DefD := ⟨"_law_rules", top 14, ["_law_xs"], ["_law_xs", "_law_fields", "_law_found", "_law_k", "_law_y", "_law_one", "_law_other", "_law_weight", "_law_way"]⟩ -- _law_rules
def d8 : DefD := ⟨"_law_is_name", top 15, ["_law_thing"], ["_law_thing", "_law_sign"]⟩ -- _law_is_name
def d9 : DefD := ⟨"_law_between", top 16, ["_law_thing", "_law_least", "_law_most"], ["_law_thing", "_law_least", "_law_most"]⟩ -- _law_between
def d10 : DefD := ⟨"_law_is_rule", top 17, ["_law_thing"], ["_law_thing"]⟩ -- _law_is_rule
def d11 : DefD := ⟨"_law_signed", top 18, ["_law_text", "_law_place", "_law_x"], ["_law_text", "_law_place", "_law_x", "_law_signs", "_law_sign", "_law_at"]⟩ -- _law_signed
def d12 : DefD := ⟨"_law_changed", top 19, ["_law_thing", "_law_xs", "_law_deep"], ["_law_thing", "_law_xs", "_law_deep", "_law_x", "_law_some", "_law_at", "_law_way"]⟩ -- _law_changed
def d13 : DefD := ⟨"law", top 20, ["_law_script"], ["_law_script", "_law_rules_here", "_law_things", "_law_letters", "_law_cell_here", "_law_xs", "_law_thing", "_law_found", "_law_due", "_law_letter", "_law_one"]⟩ -- law
def T : List DefD := [d0, d1, d2, d3, d4, d5, d6, d7, d8, d9, d10, d11, d12, d13]
def G : GT := ⟨[("is_name", 0), ("is_number", 1), ("is_headed", 2), ("is_rule", 3), ("are_rules", 4), ("_law_cell", 5), ("_law_numbers", 6), ("_law_rules", 7), ("_law_is_name", 8), ("_law_between", 9), ("_law_is_rule", 10), ("_law_signed", 11), ("_law_changed", 12), ("law", 13)], [("SMALL", .str "abcdefghijklmnopqrstuvwxyz"), ("MOST_LETTERS", .int (8)), ("MOST_WEIGHT", .int (1000)), ("MOST_SIGNS", .int (12))], ["abs", "all", "bool", "int", "isinstance", "len", "list", "range", "str", "tuple"], []⟩
set_option maxHeartbeats 0 in
theorem all_mk {l : PySem.W.OpenLaw} {w : World} {K : PySem.W.Frag} {h : Heap} {mg : Str → Option Value} {n : Nat} {fa f0 f1 f2 f3 f4 f5 f6 f7 f8 f9 f10 f11 f12 f13 : Addr} (X : K.In h) (G0 : h.Ns mainGlobals mg) (hfa : mg "law" = some (.ref fa)) (hl : LawOk T G n 13)
    {od0 an0 od1 an1 od2 an2 od3 an3 od4 an4 od5 an5 od6 an6 od7 an7 od8 an8 od9 an9 od10 an10 od11 an11 od12 an12 od13 an13 : Option Addr} {sl0 sl1 sl2 sl3 sl4 sl5 sl6 sl7 sl8 sl9 sl10 sl11 sl12 sl13 : Array (Option Value)} {oc0 kV0 dc0 pm0 cd0 ct0 oc1 kV1 dc1 pm1 cd1 ct1 oc2 kV2 dc2 pm2 cd2 ct2 oc3 kV3 dc3 pm3 cd3 ct3 oc4 kV4 dc4 pm4 cd4 ct4 oc5 kV5 dc5 pm5 cd5 ct5 oc6 kV6 dc6 pm6 cd6 ct6 oc7 kV7 dc7 pm7 cd7 ct7 oc8 kV8 dc8 pm8 cd8 ct8 oc9 kV9 dc9 pm9 cd9 ct9 oc10 kV10 dc10 pm10 cd10 ct10 oc11 kV11 dc11 pm11 cd11 ct11 oc12 kV12 dc12 pm12 cd12 ct12 oc13 kV13 dc13 pm13 cd13 ct13 : Value} {tk0 tk1 tk2 tk3 : Tok}
    (a0 : PySem.W.nsIn K mainGlobals "is_name" = some (some (.ref f0))) (l0 : K.lookup f0 = some ⟨oc0, od0, .func (PySem.W.fnOf "is_name" "is_name" (defArgs (top 3)) (defBody (top 3)) (defScope (top 3)) .none kV0 dc0 pm0 an0 cd0 ct0), sl0⟩) (c0 : PySem.W.codeIn K cd0 "is_name" = true) (k0 : PySem.W.keepIn K (.ref f0) = true)
    (a1 : PySem.W.nsIn K mainGlobals "is_number" = some (some (.ref f1))) (l1 : K.lookup f1 = some ⟨oc1, od1, .func (PySem.W.fnOf "is_number" "is_number" (defArgs (top 7)) (defBody (top 7)) (defScope (top 7)) .none kV1 dc1 pm1 an1 cd1 ct1), sl1⟩) (c1 : PySem.W.codeIn K cd1 "is_number" = true) (k1 : PySem.W.keepIn K (.ref f1) = true)
    (a2 : PySem.W.nsIn K mainGlobals "is_headed" = some (some (.ref f2))) (l2 : K.lookup f2 = some ⟨oc2, od2, .func (PySem.W.fnOf "is_headed" "is_headed" (defArgs (top 8)) (defBody (top 8)) (defScope (top 8)) .none kV2 dc2 pm2 an2 cd2 ct2), sl2⟩) (c2 : PySem.W.codeIn K cd2 "is_headed" = true) (k2 : PySem.W.keepIn K (.ref f2) = true)
    (a3 : PySem.W.nsIn K mainGlobals "is_rule" = some (some (.ref f3))) (l3 : K.lookup f3 = some ⟨oc3, od3, .func (PySem.W.fnOf "is_rule" "is_rule" (defArgs (top 9)) (defBody (top 9)) (defScope (top 9)) .none kV3 dc3 pm3 an3 cd3 ct3), sl3⟩) (c3 : PySem.W.codeIn K cd3 "is_rule" = true) (k3 : PySem.W.keepIn K (.ref f3) = true)
    (a4 : PySem.W.nsIn K mainGlobals "are_rules" = some (some (.ref f4))) (l4 : K.lookup f4 = some ⟨oc4, od4, .func (PySem.W.fnOf "are_rules" "are_rules" (defArgs (top 10)) (defBody (top 10)) (defScope (top 10)) .none kV4 dc4 pm4 an4 cd4 ct4), sl4⟩) (c4 : PySem.W.codeIn K cd4 "are_rules" = true) (k4 : PySem.W.keepIn K (.ref f4) = true)
    (a5 : PySem.W.nsIn K mainGlobals "_law_cell" = some (some (.ref f5))) (l5 : K.lookup f5 = some ⟨oc5, od5, .func (PySem.W.fnOf "_law_cell" "_law_cell" (defArgs (top 12)) (defBody (top 12)) (defScope (top 12)) .none kV5 dc5 pm5 an5 cd5 ct5), sl5⟩) (c5 : PySem.W.codeIn K cd5 "_law_cell" = true) (k5 : PySem.W.keepIn K (.ref f5) = true)
    (a6 : PySem.W.nsIn K mainGlobals "_law_numbers" = some (some (.ref f6))) (l6 : K.lookup f6 = some ⟨oc6, od6, .func (PySem.W.fnOf "_law_numbers" "_law_numbers" (defArgs (top 13)) (defBody (top 13)) (defScope (top 13)) .none kV6 dc6 pm6 an6 cd6 ct6), sl6⟩) (c6 : PySem.W.codeIn K cd6 "_law_numbers" = true) (k6 : PySem.W.keepIn K (.ref f6) = true)
    (a7 : PySem.W.nsIn K mainGlobals "_law_rules" = some (some (.ref f7))) (l7 : K.lookup f7 = some ⟨oc7, od7, .func (PySem.W.fnOf "_law_rules" "_law_rules" (defArgs (top 14)) (defBody (top 14)) (defScope (top 14)) .none kV7 dc7 pm7 an7 cd7 ct7), sl7⟩) (c7 : PySem.W.codeIn K cd7 "_law_rules" = true) (k7 : PySem.W.keepIn K (.ref f7) = true)
    (a8 : PySem.W.nsIn K mainGlobals "_law_is_name" = some (some (.ref f8))) (l8 : K.lookup f8 = some ⟨oc8, od8, .func (PySem.W.fnOf "_law_is_name" "_law_is_name" (defArgs (top 15)) (defBody (top 15)) (defScope (top 15)) .none kV8 dc8 pm8 an8 cd8 ct8), sl8⟩) (c8 : PySem.W.codeIn K cd8 "_law_is_name" = true) (k8 : PySem.W.keepIn K (.ref f8) = true)
    (a9 : PySem.W.nsIn K mainGlobals "_law_between" = some (some (.ref f9))) (l9 : K.lookup f9 = some ⟨oc9, od9, .func (PySem.W.fnOf "_law_between" "_law_between" (defArgs (top 16)) (defBody (top 16)) (defScope (top 16)) .none kV9 dc9 pm9 an9 cd9 ct9), sl9⟩) (c9 : PySem.W.codeIn K cd9 "_law_between" = true) (k9 : PySem.W.keepIn K (.ref f9) = true)
    (a10 : PySem.W.nsIn K mainGlobals "_law_is_rule" = some (some (.ref f10))) (l10 : K.lookup f10 = some ⟨oc10, od10, .func (PySem.W.fnOf "_law_is_rule" "_law_is_rule" (defArgs (top 17)) (defBody (top 17)) (defScope (top 17)) .none kV10 dc10 pm10 an10 cd10 ct10), sl10⟩) (c10 : PySem.W.codeIn K cd10 "_law_is_rule" = true) (k10 : PySem.W.keepIn K (.ref f10) = true)
    (a11 : PySem.W.nsIn K mainGlobals "_law_signed" = some (some (.ref f11))) (l11 : K.lookup f11 = some ⟨oc11, od11, .func (PySem.W.fnOf "_law_signed" "_law_signed" (defArgs (top 18)) (defBody (top 18)) (defScope (top 18)) .none kV11 dc11 pm11 an11 cd11 ct11), sl11⟩) (c11 : PySem.W.codeIn K cd11 "_law_signed" = true) (k11 : PySem.W.keepIn K (.ref f11) = true)
    (a12 : PySem.W.nsIn K mainGlobals "_law_changed" = some (some (.ref f12))) (l12 : K.lookup f12 = some ⟨oc12, od12, .func (PySem.W.fnOf "_law_changed" "_law_changed" (defArgs (top 19)) (defBody (top 19)) (defScope (top 19)) .none kV12 dc12 pm12 an12 cd12 ct12), sl12⟩) (c12 : PySem.W.codeIn K cd12 "_law_changed" = true) (k12 : PySem.W.keepIn K (.ref f12) = true)
    (a13 : PySem.W.nsIn K mainGlobals "law" = some (some (.ref f13))) (l13 : K.lookup f13 = some ⟨oc13, od13, .func (PySem.W.fnOf "law" "law" (defArgs (top 20)) (defBody (top 20)) (defScope (top 20)) .none kV13 dc13 pm13 an13 cd13 ct13), sl13⟩) (c13 : PySem.W.codeIn K cd13 "law" = true) (k13 : PySem.W.keepIn K (.ref f13) = true)
    (u0 : PySem.W.nsIn K mainGlobals "SMALL" = some (some (.str "abcdefghijklmnopqrstuvwxyz" tk0)))
    (u1 : PySem.W.nsIn K mainGlobals "MOST_LETTERS" = some (some (.int (8) tk1)))
    (u2 : PySem.W.nsIn K mainGlobals "MOST_WEIGHT" = some (some (.int (1000) tk2)))
    (u3 : PySem.W.nsIn K mainGlobals "MOST_SIGNS" = some (some (.int (12) tk3)))
    (z0 : PySem.W.nsIn K mainGlobals "abs" = some none)
    (z1 : PySem.W.nsIn K mainGlobals "all" = some none)
    (z2 : PySem.W.nsIn K mainGlobals "bool" = some none)
    (z3 : PySem.W.nsIn K mainGlobals "int" = some none)
    (z4 : PySem.W.nsIn K mainGlobals "isinstance" = some none)
    (z5 : PySem.W.nsIn K mainGlobals "len" = some none)
    (z6 : PySem.W.nsIn K mainGlobals "list" = some none)
    (z7 : PySem.W.nsIn K mainGlobals "range" = some none)
    (z8 : PySem.W.nsIn K mainGlobals "str" = some none)
    (z9 : PySem.W.nsIn K mainGlobals "tuple" = some none)
    : ∃ fd : FuncData, (∀ (s : Shared) (v : Value), BindsTo s fd ⟨[v], []⟩ [("_law_script", v)]) ∧ ∀ base : Heap, K.In base → base.Ns mainGlobals mg → FnOk l.prog w K mg base (L2.CX l.prog w) n fa fd ["_law_script"] (spLaw K) := by
  have e := hfa.symm.trans (PySem.W.mg_of X G0 a13)
  cases e
  have F0 := fun_mk (st := top 3) l0 c0 k0
  have B0 := F0.binds (ps := ["thing"]) fun _ _ _ _ _ _ us hl => match us, hl with | [_], _ => rfl
  have S0 : FnScope d0.N d0.ps (defScope d0.st) := ⟨rfl, rfl, rfl, by decide +kernel, rfl, by decide +kernel, by decide +kernel⟩
  have F1 := fun_mk (st := top 7) l1 c1 k1
  have B1 := F1.binds (ps := ["thing", "least", "most"]) fun _ _ _ _ _ _ us hl => match us, hl with | [_, _, _], _ => rfl
  have S1 : FnScope d1.N d1.ps (defScope d1.st) := ⟨rfl, rfl, rfl, by decide +kernel, rfl, by decide +kernel, by decide +kernel⟩
  have F2 := fun_mk (st := top 8) l2 c2 k2
  have B2 := F2.binds (ps := ["thing", "word", "size"]) fun _ _ _ _ _ _ us hl => match us, hl with | [_, _, _], _ => rfl
  have S2 : FnScope d2.N d2.ps (defScope d2.st) := ⟨rfl, rfl, rfl, by decide +kernel, rfl, by decide +kernel, by decide +kernel⟩
  have F3 := fun_mk (st := top 9) l3 c3 k3
  have B3 := F3.binds (ps := ["thing"]) fun _ _ _ _ _ _ us hl => match us, hl with | [_], _ => rfl
  have S3 : FnScope d3.N d3.ps (defScope d3.st) := ⟨rfl, rfl, rfl, by decide +kernel, rfl, by decide +kernel, by decide +kernel⟩
  have F4 := fun_mk (st := top 10) l4 c4 k4
  have B4 := F4.binds (ps := ["thing"]) fun _ _ _ _ _ _ us hl => match us, hl with | [_], _ => rfl
  have S4 : FnScope d4.N d4.ps (defScope d4.st) := ⟨rfl, rfl, rfl, by decide +kernel, rfl, by decide +kernel, by decide +kernel⟩
  have F5 := fun_mk (st := top 12) l5 c5 k5
  have B5 := F5.binds (ps := ["_law_script", "_law_k"]) fun _ _ _ _ _ _ us hl => match us, hl with | [_, _], _ => rfl
  have S5 : FnScope d5.N d5.ps (defScope d5.st) := ⟨rfl, rfl, rfl, by decide +kernel, rfl, by decide +kernel, by decide +kernel⟩
  have F6 := fun_mk (st := top 13) l6 c6 k6
  have B6 := F6.binds (ps := ["_law_cell_here", "_law_many"]) fun _ _ _ _ _ _ us hl => match us, hl with | [_, _], _ => rfl
  have S6 : FnScope d6.N d6.ps (defScope d6.st) := ⟨rfl, rfl, rfl, by decide +kernel, rfl, by decide +kernel, by decide +kernel⟩
  have F7 := fun_mk (st := top 14) l7 c7 k7
  have B7 := F7.binds (ps := ["_law_xs"]) fun _ _ _ _ _ _ us hl => match us, hl with | [_], _ => rfl
  have S7 : FnScope d7.N d7.ps (defScope d7.st) := ⟨rfl, rfl, rfl, by decide +kernel, rfl, by decide +kernel, by decide +kernel⟩
  have F8 := fun_mk (st := top 15) l8 c8 k8
  have B8 := F8.binds (ps := ["_law_thing"]) fun _ _ _ _ _ _ us hl => match us, hl with | [_], _ => rfl
  have S8 : FnScope d8.N d8.ps (defScope d8.st) := ⟨rfl, rfl, rfl, by decide +kernel, rfl, by decide +kernel, by decide +kernel⟩
  have F9 := fun_mk (st := top 16) l9 c9 k9
  have B9 := F9.binds (ps := ["_law_thing", "_law_least", "_law_most"]) fun _ _ _ _ _ _ us hl => match us, hl with | [_, _, _], _ => rfl
  have S9 : FnScope d9.N d9.ps (defScope d9.st) := ⟨rfl, rfl, rfl, by decide +kernel, rfl, by decide +kernel, by decide +kernel⟩
  have F10 := fun_mk (st := top 17) l10 c10 k10
  have B10 := F10.binds (ps := ["_law_thing"]) fun _ _ _ _ _ _ us hl => match us, hl with | [_], _ => rfl
  have S10 : FnScope d10.N d10.ps (defScope d10.st) := ⟨rfl, rfl, rfl, by decide +kernel, rfl, by decide +kernel, by decide +kernel⟩
  have F11 := fun_mk (st := top 18) l11 c11 k11
  have B11 := F11.binds (ps := ["_law_text", "_law_place", "_law_x"]) fun _ _ _ _ _ _ us hl => match us, hl with | [_, _, _], _ => rfl
  have S11 : FnScope d11.N d11.ps (defScope d11.st) := ⟨rfl, rfl, rfl, by decide +kernel, rfl, by decide +kernel, by decide +kernel⟩
  have F12 := fun_mk (st := top 19) l12 c12 k12
  have B12 := F12.binds (ps := ["_law_thing", "_law_xs", "_law_deep"]) fun _ _ _ _ _ _ us hl => match us, hl with | [_, _, _], _ => rfl
  have S12 : FnScope d12.N d12.ps (defScope d12.st) := ⟨rfl, rfl, rfl, by decide +kernel, rfl, by decide +kernel, by decide +kernel⟩
  have F13 := fun_mk (st := top 20) l13 c13 k13
  have B13 := F13.binds (ps := ["_law_script"]) fun _ _ _ _ _ _ us hl => match us, hl with | [_], _ => rfl
  have S13 : FnScope d13.N d13.ps (defScope d13.st) := ⟨rfl, rfl, rfl, by decide +kernel, rfl, by decide +kernel, by decide +kernel⟩
  have D : DefsOk K mg T _ := .cons (d := d0) ⟨F0, PySem.W.mg_of X G0 a0, B0, S0⟩ (.cons (d := d1) ⟨F1, PySem.W.mg_of X G0 a1, B1, S1⟩ (.cons (d := d2) ⟨F2, PySem.W.mg_of X G0 a2, B2, S2⟩ (.cons (d := d3) ⟨F3, PySem.W.mg_of X G0 a3, B3, S3⟩ (.cons (d := d4) ⟨F4, PySem.W.mg_of X G0 a4, B4, S4⟩ (.cons (d := d5) ⟨F5, PySem.W.mg_of X G0 a5, B5, S5⟩ (.cons (d := d6) ⟨F6, PySem.W.mg_of X G0 a6, B6, S6⟩ (.cons (d := d7) ⟨F7, PySem.W.mg_of X G0 a7, B7, S7⟩ (.cons (d := d8) ⟨F8, PySem.W.mg_of X G0 a8, B8, S8⟩ (.cons (d := d9) ⟨F9, PySem.W.mg_of X G0 a9, B9, S9⟩ (.cons (d := d10) ⟨F10, PySem.W.mg_of X G0 a10, B10, S10⟩ (.cons (d := d11) ⟨F11, PySem.W.mg_of X G0 a11, B11, S11⟩ (.cons (d := d12) ⟨F12, PySem.W.mg_of X G0 a12, B12, S12⟩ (.cons (d := d13) ⟨F13, PySem.W.mg_of X G0 a13, B13, S13⟩ (.nil))))))))))))))
  have C : ConstsOk mg G.consts := .cons (PySem.W.mg_of X G0 u0) (v := .str "abcdefghijklmnopqrstuvwxyz") rfl ⟨_, rfl⟩ (.cons (PySem.W.mg_of X G0 u1) (v := .int (8)) rfl ⟨_, rfl⟩ (.cons (PySem.W.mg_of X G0 u2) (v := .int (1000)) rfl ⟨_, rfl⟩ (.cons (PySem.W.mg_of X G0 u3) (v := .int (12)) rfl ⟨_, rfl⟩ (.nil))))
  have Z : NonesOk mg G.bis := .cons (PySem.W.mg_none_of X G0 z0) (.cons (PySem.W.mg_none_of X G0 z1) (.cons (PySem.W.mg_none_of X G0 z2) (.cons (PySem.W.mg_none_of X G0 z3) (.cons (PySem.W.mg_none_of X G0 z4) (.cons (PySem.W.mg_none_of X G0 z5) (.cons (PySem.W.mg_none_of X G0 z6) (.cons (PySem.W.mg_none_of X G0 z7) (.cons (PySem.W.mg_none_of X G0 z8) (.cons (PySem.W.mg_none_of X G0 z9) (.nil))))))))))
  have M := mod_of (G := G) (fa, PySem.W.fnOf "law" "law" (defArgs (top 20)) (defBody (top 20)) (defScope (top 20)) .none kV13 dc13 pm13 an13 cd13 ct13) D (by decide +kernel) C Z
  exact ⟨PySem.W.fnOf "law" "law" (defArgs (top 20)) (defBody (top 20)) (defScope (top 20)) .none kV13 dc13 pm13 an13 cd13 ct13, fun s v => .of_eq rfl, fun base _ _ => law_fn (d := d13) M rfl rfl hl⟩
end K06

set_option Elab.async false
set_option linter.all false
set_option maxRecDepth 100000
set_option maxHeartbeats 8000000
namespace K06
open PySem L2 Ev
/-- is_name('thing', 'sign') -/
def bd0 (fn : Nat → List D → Res D) : Cmd :=
  cSeqS (cIfS (cB (cOr (cNot (cIsi (cSlot 0) "str")) (cNot (cChain leD leD (cLit (.int 1)) (cN lenG [cSlot 0]) (cLit (.int 8)))))) (cSeqS (cRet (cLit (.bool false))) <|
    cNext) (cNext)) <|
  cSeqS (cRet (cN allG [cComp [1] false [1] (cSeq (cSlot 0)) cYes (c2 inD (cSlot 1) (cLit (.str "abcdefghijklmnopqrstuvwxyz")))])) <|
  cNext
theorem q0 (fn : Nat → List D → Res D) : cmdF fn G d0 = some (bd0 fn) := by kernel_rfl
theorem e0 (n : Nat) (as : List D) : evF T G (n + 1) 0 as = runF 1 2 (bd0 (evF T G n)) as := by
  show runO 1 2 (cmdF (evF T G n) G d0) as = _
  rw [q0]; rfl
/-- is_number('thing', 'least', 'most') -/
def bd1 (fn : Nat → List D → Res D) : Cmd :=
  cSeqS (cRet (cAnd (cIsi (cSlot 0) "int") (cAnd (cNot (cIsi (cSlot 0) "bool")) (cChain leD leD (cSlot 1) (cSlot 0) (cSlot 2))))) <|
  cNext
theorem q1 (fn : Nat → List D → Res D) : cmdF fn G d1 = some (bd1 fn) := by kernel_rfl
theorem e1 (n : Nat) (as : List D) : evF T G (n + 1) 1 as = runF 3 3 (bd1 (evF T G n)) as := by
  show runO 3 3 (cmdF (evF T G n) G d1) as = _
  rw [q1]; rfl
/-- is_headed('thing', 'word', 'size') -/
def bd2 (fn : Nat → List D → Res D) : Cmd :=
  cSeqS (cRet (cAnd (cIsi (cSlot 0) "tuple") (cAnd (c2 eqD (cN lenG [cSlot 0]) (cSlot 2)) (cAnd (cIsi (c2 ixD (cSlot 0) (cLit (.int 0))) "str") (c2 eqD (c2 ixD (cSlot 0) (cLit (.int 0))) (cSlot 1)))))) <|
  cNext
theorem q2 (fn : Nat → List D → Res D) : cmdF fn G d2 = some (bd2 fn) := by kernel_rfl
theorem e2 (n : Nat) (as : List D) : evF T G (n + 1) 2 as = runF 3 3 (bd2 (evF T G n)) as := by
  show runO 3 3 (cmdF (evF T G n) G d2) as = _
  rw [q2]; rfl
/-- is_rule('thing',) -/
def bd3 (fn : Nat → List D → Res D) : Cmd :=
  cSeqS (cIfS (cB (cCall fn 2 [cSlot 0, cLit (.str "never"), cLit (.int 2)])) (cSeqS (cRet (cCall fn 0 [c2 ixD (cSlot 0) (cLit (.int 1))])) <|
    cNext) (cNext)) <|
  cSeqS (cIfS (cB (cCall fn 2 [cSlot 0, cLit (.str "same"), cLit (.int 3)])) (cSeqS (cRet (cAnd (cCall fn 0 [c2 ixD (cSlot 0) (cLit (.int 1))]) (cCall fn 1 [c2 ixD (cSlot 0) (cLit (.int 2)), cLit (.int 1), cLit (.int 1000)]))) <|
    cNext) (cNext)) <|
  cSeqS (cIfS (cB (cCall fn 2 [cSlot 0, cLit (.str "begin"), cLit (.int 4)])) (cSeqS (cRet (cAnd (cCall fn 0 [c2 ixD (cSlot 0) (cLit (.int 1))]) (cAnd (cCall fn 1 [c2 ixD (cSlot 0) (cLit (.int 2)), cLit (.int 1), cLit (.int 12)]) (cCall fn 1 [c2 ixD (cSlot 0) (cLit (.int 3)), cLit (.int 1), cLit (.int 1000)])))) <|
    cNext) (cNext)) <|
  cSeqS (cIfS (cB (cOr (cNot (cCall fn 2 [cSlot 0, cLit (.str "both"), cLit (.int 4)])) (cOr (cNot (cCall fn 0 [c2 ixD (cSlot 0) (cLit (.int 1))])) (cNot (cCall fn 0 [c2 ixD (cSlot 0) (cLit (.int 2))]))))) (cSeqS (cRet (cLit (.bool false))) <|
    cNext) (cNext)) <|
  cSeqS (cRet (cAnd (c2 neD (c2 ixD (cSlot 0) (cLit (.int 1))) (c2 ixD (cSlot 0) (cLit (.int 2)))) (cCall fn 1 [c2 ixD (cSlot 0) (cLit (.int 3)), cLit (.int 1), cLit (.int 1000)]))) <|
  cNext
theorem q3 (fn : Nat → List D → Res D) : cmdF fn G d3 = some (bd3 fn) := by kernel_rfl
theorem e3 (n : Nat) (as : List D) : evF T G (n + 1) 3 as = runF 1 1 (bd3 (evF T G n)) as := by
  show runO 1 1 (cmdF (evF T G n) G d3) as = _
  rw [q3]; rfl
/-- are_rules('thing', 'rule') -/
def bd4 (fn : Nat → List D → Res D) : Cmd :=
  cSeqS (cRet (cAnd (cIsi (cSlot 0) "tuple") (cN allG [cComp [1] false [1] (cSeq (cSlot 0)) cYes (cCall fn 3 [cSlot 1])]))) <|
  cNext
theorem q4 (fn : Nat → List D → Res D) : cmdF fn G d4 = some (bd4 fn) := by kernel_rfl
theorem e4 (n : Nat) (as : List D) : evF T G (n + 1) 4 as = runF 1 2 (bd4 (evF T G n)) as := by
  show runO 1 2 (cmdF (evF T G n) G d4) as = _
  rw [q4]; rfl
/-- _law_cell('_law_script', '_law_k', '_law_state', '_law_cell_here') -/
def bd5 (fn : Nat → List D → Res D) : Cmd :=
  cSeqS (cIfS (cB (c2 ltD (cSlot 1) (cN lenG [cSlot 0]))) (cSeqS (cRet (c2 ixD (cSlot 0) (cSlot 1))) <|
    cNext) (cNext)) <|
  cSeqS (cAsg false [2] (c2 modD (c2 mulD (cLit (.int 48271)) (c2 addD (c2 addD (c2 mulD (cSlot 1) (cSlot 1)) (c2 mulD (cLit (.int 7)) (cSlot 1))) (cLit (.int 11)))) (cLit (.int 2147483647)))) <|
  cSeqS (cFor false [3] (cSeq (cSl (cSlot 0) none (some (cLit (.int 3))))) (cSeqS (cAsg false [2] (c2 modD (c2 addD (c2 mulD (cSlot 2) (cLit (.int 69621))) (cSlot 3)) (cLit (.int 2147483647)))) <|
    cNext)) <|
  cSeqS (cRet (cSlot 2)) <|
  cNext
theorem q5 (fn : Nat → List D → Res D) : cmdF fn G d5 = some (bd5 fn) := by kernel_rfl
theorem e5 (n : Nat) (as : List D) : evF T G (n + 1) 5 as = runF 2 4 (bd5 (evF T G n)) as := by
  show runO 2 4 (cmdF (evF T G n) G d5) as = _
  rw [q5]; rfl
/-- _law_numbers('_law_cell_here', '_law_many', '_law_found', '_law_state', '_law_digits', '_law_k') -/
def bd6 (fn : Nat → List D → Res D) : Cmd :=
  cSeqS (cAsg false [2] (cLst [])) <|
  cSeqS (cAsg false [3] (c2 modD (c2 mulD (c2 addD (c2 modD (cSlot 0) (cLit (.int 1999999973))) (cLit (.int 31))) (cLit (.int 765432101))) (cLit (.int 1999999973)))) <|
  cSeqS (cAsg false [4] (cLit (.int 0))) <|
  cSeqS (cIfS (cB (cOr (c2 ltD (cSlot 0) (cLit (.int 0))) (c2 geD (cSlot 0) (c2 powD (cLit (.int 10)) (cLit (.int 18)))))) (cSeqS (cAsg false [4] (cN absG [cSlot 0])) <|
    cNext) (cNext)) <|
  cSeqS (cFor false [5] (cSrc rng1 [cSlot 1]) (cSeqS (cAsg false [3] (c2 modD (c2 addD (c2 addD (c2 mulD (cSlot 3) (c2 addD (c2 modD (cSlot 3) (cLit (.int 65521))) (cLit (.int 40487)))) (c2 mulD (cLit (.int 7)) (cSlot 5))) (cLit (.int 5))) (cLit (.int 1999999973)))) <|
    cSeqS (cAppend 2 (c2 ixD (cLst [cSlot 3, c2 modD (cSlot 4) (cLit (.int 1000000))]) (cN intG [c2 gtD (cSlot 4) (cLit (.int 0))]))) <|
    cSeqS (cAsg false [4] (c2 fdivD (cSlot 4) (cLit (.int 1000000)))) <|
    cNext)) <|
  cSeqS (cRet (cSlot 2)) <|
  cNext
theorem q6 (fn : Nat → List D → Res D) : cmdF fn G d6 = some (bd6 fn) := by kernel_rfl
theorem e6 (n : Nat) (as : List D) : evF T G (n + 1) 6 as = runF 2 6 (bd6 (evF T G n)) as := by
  show runO 2 6 (cmdF (evF T G n) G d6) as = _
  rw [q6]; rfl
/-- _law_rules('_law_xs', '_law_fields', '_law_found', '_law_k', '_law_y', '_law_one', '_law_other', '_law_weight', '_law_way') -/
def bd7 (fn : Nat → List D → Res D) : Cmd :=
  cSeqS (cAsg false [1] (cLst [cLit (.str "day"), cLit (.str "name"), cLit (.str "names"), cLit (.str "p"), cLit (.str "zzz")])) <|
  cSeqS (cAsg false [2] (cLst [])) <|
  cSeqS (cFor false [3] (cSrc rng1 [c2 addD (cLit (.int 1)) (c2 modD (c2 ixD (cSlot 0) (cLit (.int 0))) (cLit (.int 4)))]) (cSeqS (cAsg false [4] (c2 ixD (cSlot 0) (c2 addD (cLit (.int 1)) (cSlot 3)))) <|
    cSeqS (cPar [5, 6] [c2 ixD (cSlot 1) (c2 modD (cSlot 4) (cLit (.int 5))), c2 ixD (cSlot 1) (c2 modD (c2 addD (c2 addD (cSlot 4) (cLit (.int 1))) (c2 modD (c2 fdivD (cSlot 4) (cLit (.int 5))) (cLit (.int 4)))) (cLit (.int 5)))]) <|
    cSeqS (cAsg false [7] (c2 ixD (cLst [c2 addD (cLit (.int 1)) (c2 modD (c2 fdivD (cSlot 4) (cLit (.int 300))) (cLit (.int 3))), c2 addD (cLit (.int 1)) (c2 modD (c2 fdivD (cSlot 4) (cLit (.int 300))) (cLit (.int 1000)))]) (c2 modD (c2 fdivD (cSlot 4) (cLit (.int 7))) (cLit (.int 2))))) <|
    cSeqS (cAsg false [8] (c2 modD (c2 fdivD (cSlot 4) (cLit (.int 20))) (cLit (.int 5)))) <|
    cSeqS (cIfS (cB (c2 eqD (cSlot 8) (cLit (.int 0)))) (cSeqS (cAppend 2 (cTup [cLit (.str "never"), cSlot 5])) <|
      cNext) (cSeqS (cIfS (cB (c2 eqD (cSlot 8) (cLit (.int 1)))) (cSeqS (cAppend 2 (cTup [cLit (.str "begin"), cSlot 5, c2 addD (cLit (.int 1)) (c2 modD (c2 fdivD (cSlot 4) (cLit (.int 100))) (cLit (.int 3))), cSlot 7])) <|
        cNext) (cSeqS (cIfS (cB (c2 eqD (cSlot 8) (cLit (.int 2)))) (cSeqS (cAppend 2 (cTup [cLit (.str "both"), cSlot 5, cSlot 6, cSlot 7])) <|
          cNext) (cSeqS (cAppend 2 (cTup [cLit (.str "same"), cSlot 5, cSlot 7])) <|
          cNext)) <|
        cNext)) <|
      cNext)) <|
    cNext)) <|
  cSeqS (cRet (cN tupG [cSlot 2])) <|
  cNext
theorem q7 (fn : Nat → List D → Res D) : cmdF fn G d7 = some (bd7 fn) := by kernel_rfl
theorem e7 (n : Nat) (as : List D) : evF T G (n + 1) 7 as = runF 1 9 (bd7 (evF T G n)) as := by
  show runO 1 9 (cmdF (evF T G n) G d7) as = _
  rw [q7]; rfl
/-- _law_is_name('_law_thing', '_law_sign') -/
def bd8 (fn : Nat → List D → Res D) : Cmd :=
  cSeqS (cIfS (cB (cOr (cNot (cIsi (cSlot 0) "str")) (cNot (cChain ltD ltD (cLit (.int 0)) (cN lenG [cSlot 0]) (cLit (.int 9)))))) (cSeqS (cRet (cLit (.bool false))) <|
    cNext) (cNext)) <|
  cSeqS (cRet (cN allG [cComp [1] false [1] (cSeq (cSlot 0)) cYes (c2 inD (cSlot 1) (cLit (.str "abcdefghijklmnopqrstuvwxyz")))])) <|
  cNext
theorem q8 (fn : Nat → List D → Res D) : cmdF fn G d8 = some (bd8 fn) := by kernel_rfl
theorem e8 (n : Nat) (as : List D) : evF T G (n + 1) 8 as = runF 1 2 (bd8 (evF T G n)) as := by
  show runO 1 2 (cmdF (evF T G n) G d8) as = _
  rw [q8]; rfl
/-- _law_between('_law_thing', '_law_least', '_law_most') -/
def bd9 (fn : Nat → List D → Res D) : Cmd :=
  cSeqS (cRet (cAnd (cIsi (cSlot 0) "int") (cAnd (cNot (cIsi (cSlot 0) "bool")) (cChain leD leD (cSlot 1) (cSlot 0) (cSlot 2))))) <|
  cNext
theorem q9 (fn : Nat → List D → Res D) : cmdF fn G d9 = some (bd9 fn) := by kernel_rfl
theorem e9 (n : Nat) (as : List D) : evF T G (n + 1) 9 as = runF 3 3 (bd9 (evF T G n)) as := by
  show runO 3 3 (cmdF (evF T G n) G d9) as = _
  rw [q9]; rfl
/-- _law_is_rule('_law_thing',) -/
def bd10 (fn : Nat → List D → Res D) : Cmd :=
  cSeqS (cIfS (cB (cOr (cNot (cIsi (cSlot 0) "tuple")) (cOr (c2 ltD (cN lenG [cSlot 0]) (cLit (.int 2))) (cOr (cNot (cIsi (c2 ixD (cSlot 0) (cLit (.int 0))) "str")) (cNot (cCall fn 8 [c2 ixD (cSlot 0) (cLit (.int 1))])))))) (cSeqS (cRet (cLit (.bool false))) <|
    cNext) (cNext)) <|
  cSeqS (cIfS (cB (c2 eqD (c2 ixD (cSlot 0) (cLit (.int 0))) (cLit (.str "never")))) (cSeqS (cRet (c2 eqD (cN lenG [cSlot 0]) (cLit (.int 2)))) <|
    cNext) (cNext)) <|
  cSeqS (cIfS (cB (c2 eqD (c2 ixD (cSlot 0) (cLit (.int 0))) (cLit (.str "same")))) (cSeqS (cRet (cAnd (c2 eqD (cN lenG [cSlot 0]) (cLit (.int 3))) (cCall fn 9 [c2 ixD (cSlot 0) (cLit (.int 2)), cLit (.int 1), cLit (.int 1000)]))) <|
    cNext) (cNext)) <|
  cSeqS (cIfS (cB (cOr (c2 neD (cN lenG [cSlot 0]) (cLit (.int 4))) (cNot (cCall fn 9 [c2 ixD (cSlot 0) (cLit (.int 3)), cLit (.int 1), cLit (.int 1000)])))) (cSeqS (cRet (cLit (.bool false))) <|
    cNext) (cNext)) <|
  cSeqS (cIfS (cB (c2 eqD (c2 ixD (cSlot 0) (cLit (.int 0))) (cLit (.str "begin")))) (cSeqS (cRet (cCall fn 9 [c2 ixD (cSlot 0) (cLit (.int 2)), cLit (.int 1), cLit (.int 12)])) <|
    cNext) (cNext)) <|
  cSeqS (cRet (cAnd (c2 eqD (c2 ixD (cSlot 0) (cLit (.int 0))) (cLit (.str "both"))) (cAnd (cCall fn 8 [c2 ixD (cSlot 0) (cLit (.int 2))]) (c2 neD (c2 ixD (cSlot 0) (cLit (.int 1))) (c2 ixD (cSlot 0) (cLit (.int 2))))))) <|
  cNext
theorem q10 (fn : Nat → List D → Res D) : cmdF fn G d10 = some (bd10 fn) := by kernel_rfl
theorem e10 (n : Nat) (as : List D) : evF T G (n + 1) 10 as = runF 1 1 (bd10 (evF T G n)) as := by
  show runO 1 1 (cmdF (evF T G n) G d10) as = _
  rw [q10]; rfl
/-- _law_signed('_law_text', '_law_place', '_law_x', '_law_signs', '_law_sign', '_law_at') -/
def bd11 (fn : Nat → List D → Res D) : Cmd :=
  cSeqS (cAsg false [3] (cLit (.str "abcdefghijklmnopqrstuvwxyz0123456789 ABCDEFGHIJKLMNOPQRSTUVWXYZ"))) <|
  cSeqS (cAsg false [3] (c2 addD (cSlot 3) (cLit (.str "!#$&'()*+,-./:;<=>?\x40[]^_`{|}~\"\\")))) <|
  cSeqS (cAsg false [4] (c2 ixD (cSlot 3) (c2 modD (c2 fdivD (cSlot 2) (cLit (.int 6))) (c2 ixD (cLst [cLit (.int 36), cLit (.int 94)]) (c2 modD (c2 fdivD (cSlot 2) (cLit (.int 3))) (cLit (.int 2))))))) <|
  cSeqS (cAsg false [5] (c2 modD (cSlot 1) (c2 addD (cN lenG [cSlot 0]) (cLit (.int 1))))) <|
  cSeqS (cRet (c2 ixD (cLst [c2 addD (c2 addD (cSl (cSlot 0) none (some (cSlot 5))) (cSlot 4)) (cSl (cSlot 0) (some (cSlot 5)) none), c2 addD (c2 addD (cSl (cSlot 0) none (some (cSlot 5))) (cSlot 4)) (cSl (cSlot 0) (some (c2 addD (cSlot 5) (cLit (.int 1)))) none), c2 addD (cSl (cSlot 0) none (some (cSlot 5))) (cSl (cSlot 0) (some (c2 addD (cSlot 5) (cLit (.int 1)))) none)]) (c2 modD (cSlot 2) (cLit (.int 3))))) <|
  cNext
theorem q11 (fn : Nat → List D → Res D) : cmdF fn G d11 = some (bd11 fn) := by kernel_rfl
theorem e11 (n : Nat) (as : List D) : evF T G (n + 1) 11 as = runF 3 6 (bd11 (evF T G n)) as := by
  show runO 3 6 (cmdF (evF T G n) G d11) as = _
  rw [q11]; rfl
def bd12s11 (fn : Nat → List D → Res D) : Cmd :=
  cSeqS (cRet (c2 ixD (c2 addD (cSlot 4) (cLst [cSl (cSlot 0) (some (cLit (.int 1))) none])) (cSlot 6))) <| cNext
def bd12s10 (fn : Nat → List D → Res D) : Cmd :=
  cSeqS (cAsg false [4] (cLst [c2 addD (cSl (cSlot 0) none (some (cSlot 5))) (cSl (cSlot 0) (some (c2 addD (cSlot 5) (cLit (.int 1)))) none), c2 addD (c2 addD (cSl (cSlot 0) none (some (cSlot 5))) (cTup [c2 ixD (cSlot 0) (cSlot 5)])) (cSl (cSlot 0) (some (cSlot 5)) none), c1 revD (cSlot 0), cN lstG [cSlot 0]])) <| bd12s11 fn
def bd12s9 (fn : Nat → List D → Res D) : Cmd :=
  cSeqS (cIfS (cB (c2 eqD (cSlot 6) (cLit (.int 5)))) (cSeqS (cRet (c2 addD (cSlot 0) (cTup [c2 ixD (cSlot 4) (c2 modD (c2 fdivD (cSlot 3) (cLit (.int 512))) (cLit (.int 27)))]))) <|
    cNext) (cNext)) <| bd12s10 fn
def bd12s8 (fn : Nat → List D → Res D) : Cmd :=
  cSeqS (cAsg false [6] (c2 modD (c2 fdivD (cSlot 3) (cLit (.int 64))) (cLit (.int 6)))) <| bd12s9 fn
def bd12s7 (fn : Nat → List D → Res D) : Cmd :=
  cSeqS (cIfS (cB (cAnd (c2 gtD (cSlot 2) (cLit (.int 0))) (c2 gtD (c2 modD (cSlot 3) (cLit (.int 8))) (cLit (.int 1))))) (cSeqS (cRet (c2 addD (c2 addD (cSl (cSlot 0) none (some (cSlot 5))) (cTup [cCall fn 12 [c2 ixD (cSlot 0) (cSlot 5), cSl (cSlot 1) (some (cLit (.int 1))) none, c2 subD (cSlot 2) (cLit (.int 1))]])) (cSl (cSlot 0) (some (c2 addD (cSlot 5) (cLit (.int 1)))) none))) <|
    cNext) (cNext)) <| bd12s8 fn
def bd12s6 (fn : Nat → List D → Res D) : Cmd :=
  cSeqS (cAsg false [5] (c2 modD (c2 fdivD (cSlot 3) (cLit (.int 8))) (cN lenG [cSlot 0]))) <| bd12s7 fn
def bd12s5 (fn : Nat → List D → Res D) : Cmd :=
  cSeqS (cIfS (cB (cOr (cNot (cIsi (cSlot 0) "tuple")) (c2 eqD (cSlot 0) (cTup [])))) (cSeqS (cRet (c2 ixD (cSlot 4) (c2 modD (c2 fdivD (cSlot 3) (cLit (.int 3))) (cLit (.int 27))))) <|
    cNext) (cNext)) <| bd12s6 fn
def bd12s4 (fn : Nat → List D → Res D) : Cmd :=
  cSeqS (cAsg false [4] (c2 addD (cSlot 4) (cLst [cLit (.str "abcdefgh"), cLit (.str "abcdefghi"), cTup [], cLst [], cLit (.dict []), cTup [cLit (.str "never"), cLit (.str "p")], cLit (.int 999999), cLit (.bool false)]))) <| bd12s5 fn
def bd12s3 (fn : Nat → List D → Res D) : Cmd :=
  cSeqS (cAsg false [4] (cLst [cLit (.int 0), cLit (.int 1), cLit (.int 12), cLit (.int 13), cLit (.int 1000), cLit (.int 1001), c1 negD (cLit (.int 1)), cLit (.bool true), cLit .none, cLit (.str "1"), cLit (.str ""), cLit (.str "A"), cLit (.str "same"), cLit (.str "never"), cLit (.str "begin"), cLit (.str "both"), cLit (.str "day"), cLit (.str "p"), cLit (.str "a1")])) <| bd12s4 fn
def bd12s2 (fn : Nat → List D → Res D) : Cmd :=
  cSeqS (cIfS (cB (cAnd (cIsi (cSlot 0) "int") (c2 eqD (c2 modD (cSlot 3) (cLit (.int 3))) (cLit (.int 1))))) (cSeqS (cRet (c2 addD (cSlot 0) (c2 ixD (cLst [cLit (.int 1), c2 subD (cLit (.int 0)) (cLit (.int 1))]) (c2 modD (c2 fdivD (cSlot 3) (cLit (.int 3))) (cLit (.int 2)))))) <|
    cNext) (cNext)) <| bd12s3 fn
def bd12s1 (fn : Nat → List D → Res D) : Cmd :=
  cSeqS (cIfS (cB (cAnd (cIsi (cSlot 0) "str") (c2 eqD (c2 modD (cSlot 3) (cLit (.int 3))) (cLit (.int 1))))) (cSeqS (cRet (cCall fn 11 [cSlot 0, c2 ixD (cSlot 1) (cLit (.int 1)), c2 ixD (cSlot 1) (cLit (.int 2))])) <|
    cNext) (cNext)) <| bd12s2 fn
/-- _law_changed('_law_thing', '_law_xs', '_law_deep', '_law_x', '_law_some', '_law_at', '_law_way') -/
def bd12 (fn : Nat → List D → Res D) : Cmd :=
  cSeqS (cAsg false [3] (c2 ixD (cSlot 1) (cLit (.int 0)))) <| bd12s1 fn
theorem q12 (fn : Nat → List D → Res D) : cmdF fn G d12 = some (bd12 fn) := by kernel_rfl
theorem e12 (n : Nat) (as : List D) : evF T G (n + 1) 12 as = runF 3 7 (bd12 (evF T G n)) as := by
  show runO 3 7 (cmdF (evF T G n) G d12) as = _
  rw [q12]; rfl
def bd13s13 (fn : Nat → List D → Res D) : Cmd :=
  cSeqS (cRet (cLit (.bool true))) <| cNext
def bd13s12 (fn : Nat → List D → Res D) : Cmd :=
  cSeqS (cFor false [6] (cSeq (cSlot 2)) (cSeqS (cAsg false [7] (cLst [cCall fn 3 [cSlot 6], cCall fn 4 [cSlot 6]])) <|
    cSeqS (cAsg false [8] (cLst [cCall fn 10 [cSlot 6], cAnd (cIsi (cSlot 6) "tuple") (cN allG [cComp [10] false [10] (cSeq (cSlot 6)) cYes (cCall fn 10 [cSlot 10])])])) <|
    cSeqS (cIfS (cB (cOr (c2 neD (cSlot 7) (cSlot 8)) (cNot (cN allG [cComp [10] false [10] (cSeq (cSlot 7)) cYes (cIsi (cSlot 10) "bool")])))) (cSeqS (cRet (cLit (.bool false))) <|
      cNext) (cNext)) <|
    cNext)) <| bd13s13 fn
def bd13s11 (fn : Nat → List D → Res D) : Cmd :=
  cSeqS (cFor false [4] (cSeq (cSl (cSlot 0) (some (cLit (.int 1))) (some (cLit (.int 25))))) (cSeqS (cAsg false [5] (cCall fn 6 [cSlot 4, cLit (.int 9)])) <|
    cSeqS (cAppend 2 (cCall fn 12 [c2 ixD (cLst [cSlot 1, c2 ixD (cSlot 1) (c2 modD (c2 ixD (cSlot 5) (cLit (.int 0))) (cN lenG [cSlot 1]))]) (c2 modD (c2 ixD (cSlot 5) (cLit (.int 1))) (cLit (.int 2))), cSl (cSlot 5) (some (cLit (.int 2))) none, cLit (.int 2)])) <|
    cNext)) <| bd13s12 fn
def bd13s10 (fn : Nat → List D → Res D) : Cmd :=
  cSeqS (cAsg false [2] (c2 addD (cSlot 2) (cLst [cTup [cLit (.str "both"), cLit (.str "a"), cLit (.str "nopqrstu"), cLit (.int 5)], cTup [cLit (.str "same"), c2 addD (cLit (.str "vwxyz")) (cSl (cSlot 3) none (some (cLit (.int 3)))), cLit (.int 5)], cTup [cLit (.str "begin"), cSl (cSlot 3) (some (cLit (.int 3))) (some (cLit (.int 11))), cLit (.int 1), cLit (.int 5)]]))) <| bd13s11 fn
def bd13s9 (fn : Nat → List D → Res D) : Cmd :=
  cSeqS (cAsg false [2] (c2 addD (c2 addD (cSlot 2) (cComp [9] false [9] (cSeq (cSlot 3)) cYes (cTup [cLit (.str "never"), cSlot 9]))) (cComp [9] false [9] (cSeq (cSlot 3)) cYes (cTup [cLit (.str "never"), c1 upperD (cSlot 9)])))) <| bd13s10 fn
def bd13s8 (fn : Nat → List D → Res D) : Cmd :=
  cSeqS (cAsg false [3] (cLit (.str "abcdefghijklmnopqrstuvwxyz"))) <| bd13s9 fn
def bd13s7 (fn : Nat → List D → Res D) : Cmd :=
  cSeqS (cAppend 2 (cTup [cLit (.str "none"), cLit (.str "p")])) <| bd13s8 fn
def bd13s6 (fn : Nat → List D → Res D) : Cmd :=
  cSeqS (cAsg false [2] (c2 addD (cSlot 2) (cLst [cTup [cLit (.str "never"), cLst [cLit (.str "p")]], cTup [cLit .none], cTup [cTup []], cTup [cLit (.str "begin"), cLit (.str "p"), cLit (.int 1), cLit (.int 1001)], cTup [cLit (.str "both"), cLit (.str "p"), cLit (.str "day"), cLit (.int 0)]]))) <| bd13s7 fn
def bd13s5 (fn : Nat → List D → Res D) : Cmd :=
  cSeqS (cAsg false [2] (c2 addD (cSlot 2) (cLst [cLst [cLit (.str "never"), cLit (.str "p")], cTup [cLit (.str "never"), cLit (.str "p"), cLit (.int 1)], cTup [cTup [cLit (.str "never"), cLit (.str "p")], cTup [cLit (.str "none"), cLit (.str "p")]], cTup [cLst [cLit (.str "never"), cLit (.str "p")]], cLit (.str "")]))) <| bd13s6 fn
def bd13s4 (fn : Nat → List D → Res D) : Cmd :=
  cSeqS (cAsg false [2] (c2 addD (cSlot 2) (cLst [cTup [cLit (.str "begin"), cLit (.str "p"), cLit (.int 12), cLit (.int 5)], cTup [cLit (.str "begin"), cLit (.str "p"), cLit (.int 13), cLit (.int 5)], cTup [cLit (.str "begin"), cLit (.str "p"), cLit (.bool true), cLit (.int 5)], cTup [cLit (.str "both"), cLit (.str "p"), cLit (.int 3), cLit (.int 5)]]))) <| bd13s5 fn
def bd13s3 (fn : Nat → List D → Res D) : Cmd :=
  cSeqS (cAsg false [2] (c2 addD (cSlot 2) (cLst [cTup [cLit (.str "same"), cLit (.str "p"), cLit (.bool true)], cTup [cLit (.str "both"), cLit (.str "p"), cLit (.str "p"), cLit (.int 5)], cTup [cLit (.str "both"), cLit (.str "p"), cLit (.str "day"), cLit (.int 5)], cTup [cLit (.str "begin"), cLit (.str "p"), cLit (.int 0), cLit (.int 5)]]))) <| bd13s4 fn
def bd13s2 (fn : Nat → List D → Res D) : Cmd :=
  cSeqS (cAsg false [2] (c2 addD (cSlot 2) (cLst [cTup [cLit (.str "never"), cLit (.str "P")], cTup [cLit (.str "same"), cLit (.str "p"), cLit (.int 1)], cTup [cLit (.str "same"), cLit (.str "p"), cLit (.int 0)], cTup [cLit (.str "same"), cLit (.str "p"), cLit (.int 1001)], cTup [cLit (.str "same"), cLit (.str "p"), cLit (.int 1000)]]))) <| bd13s3 fn
def bd13s1 (fn : Nat → List D → Res D) : Cmd :=
  cSeqS (cAsg false [2] (cLst [cSlot 1, c2 addD (cSlot 1) (cSl (cSlot 1) none (some (cLit (.int 1)))), cN lstG [cSlot 1], cTup [], cLst [], cLit .none, cLit (.int 0), cLit (.str "same"), cTup [cLit (.str "never")], cTup [cLit (.str "never"), cLit (.str "p")], cLit (.dict []), cLit (.bool true)])) <| bd13s2 fn
/-- law('_law_script', '_law_rules_here', '_law_things', '_law_letters', '_law_cell_here', '_law_xs', '_law_thing', '_law_found', '_law_due', '_law_letter', '_law_one') -/
def bd13 (fn : Nat → List D → Res D) : Cmd :=
  cSeqS (cAsg false [1] (cCall fn 7 [cCall fn 6 [cCall fn 5 [cSlot 0, cLit (.int 0)], cLit (.int 5)]])) <| bd13s1 fn
theorem q13 (fn : Nat → List D → Res D) : cmdF fn G d13 = some (bd13 fn) := by kernel_rfl
theorem e13 (n : Nat) (as : List D) : evF T G (n + 1) 13 as = runF 1 11 (bd13 (evF T G n)) as := by
  show runO 1 11 (cmdF (evF T G n) G d13) as = _
  rw [q13]; rfl
end K06

set_option Elab.async false
set_option linter.all false
set_option maxRecDepth 100000
set_option maxHeartbeats 8000000
namespace K06
open PySem Ev
def numB (lo hi : Int) (d : D) : Bool := match d with
  | .int i => decide (lo ≤ i) && decide (i ≤ hi)
  | _ => false
theorem is_number_ok (n : Nat) (d : D) (lo hi : Int) : WP (evF T G (n + 1) 1 [d, .int lo, .int hi]) fun v => v = .bool (numB lo hi d) := by
  rw [e1]
  refine wp_run rfl ?_
  simp only [bd1, startE, List.map, List.replicate, List.append, List.cons_append, List.nil_append, wp_ok, op_some, op_none, bp_bool, ip_int, lp_list, tp_tup, slot_0, slot_s, WP_cB, wp_slot, wp_lit, wp_c1, wp_c2, wp_nil, wp_cons, wp_cN, wp_and, wp_or, wp_not, wp_if, wp_tup, wp_lst, wp_chain, wp_isi, wp_part0, wp_part, wp_sl, wp_call, wp_seq, wp_src, wf_next, wf_brk, wf_cnt, wf_retN, wf_seq, wf_ret, wf_drop, wf_asg, wf_asgT, wf_par, wf_if, wf_app, wf_setI, tg_name, tg_tup, add_int, add_str, add_list, add_tup, sub_int, mul_int, mod_int, fdiv_int, pow_int, lt_int, le_int, gt_int, ge_int, eq_int, eq_str, ne_int, ne_str, neg_int, abs_int, int_int, int_bool, tup_list, lst_tup, lst_list, len_str, len_list, len_tup, seq_list, seq_tup, seq_str, rng1_int, rng2_int, sl_list, sl_tup, sl_str, rev_list, rev_tup, upper_str, List.set_cons_zero, List.set_cons_succ, setAll, List.length_cons, List.length_nil, Bool.false_eq_true, if_true, if_false, ite_self, eq_self, Bool.not_true, Bool.not_false, line, Nat.reduceLeDiff, Nat.reduceLT, Nat.reduceAdd, Int.reduceLT, Int.reduceLE, true_and, and_true, ixt0, ixt1, ixt2, ixt3, ixl0, ixl1, ixl2, ixl3]
  cases d <;> simp [isiB, tyN, numB, wp_ok, op_some, op_none, bp_bool, ip_int, lp_list, tp_tup, slot_0, slot_s, WP_cB, wp_slot, wp_lit, wp_c1, wp_c2, wp_nil, wp_cons, wp_cN, wp_and, wp_or, wp_not, wp_if, wp_tup, wp_lst, wp_chain, wp_isi, wp_part0, wp_part, wp_sl, wp_call, wp_seq, wp_src, wf_next, wf_brk, wf_cnt, wf_retN, wf_seq, wf_ret, wf_drop, wf_asg, wf_asgT, wf_par, wf_if, wf_app, wf_setI, tg_name, tg_tup, add_int, add_str, add_list, add_tup, sub_int, mul_int, mod_int, fdiv_int, pow_int, lt_int, le_int, gt_int, ge_int, eq_int, eq_str, ne_int, ne_str, neg_int, abs_int, int_int, int_bool, tup_list, lst_tup, lst_list, len_str, len_list, len_tup, seq_list, seq_tup, seq_str, rng1_int, rng2_int, sl_list, sl_tup, sl_str, rev_list, rev_tup, upper_str, List.set_cons_zero, List.set_cons_succ, setAll, List.length_cons, List.length_nil, Bool.false_eq_true, if_true, if_false, ite_self, eq_self, Bool.not_true, Bool.not_false, line, Nat.reduceLeDiff, Nat.reduceLT, Nat.reduceAdd, Int.reduceLT, Int.reduceLE, true_and, and_true, ixt0, ixt1, ixt2, ixt3, ixl0, ixl1, ixl2, ixl3]
  rename_i i
  by_cases h : lo ≤ i <;> simp [h]
theorem law_between_ok (n : Nat) (d : D) (lo hi : Int) : WP (evF T G (n + 1) 9 [d, .int lo, .int hi]) fun v => v = .bool (numB lo hi d) := by
  rw [e9]
  refine wp_run rfl ?_
  simp only [bd9, startE, List.map, List.replicate, List.append, List.cons_append, List.nil_append, wp_ok, op_some, op_none, bp_bool, ip_int, lp_list, tp_tup, slot_0, slot_s, WP_cB, wp_slot, wp_lit, wp_c1, wp_c2, wp_nil, wp_cons, wp_cN, wp_and, wp_or, wp_not, wp_if, wp_tup, wp_lst, wp_chain, wp_isi, wp_part0, wp_part, wp_sl, wp_call, wp_seq, wp_src, wf_next, wf_brk, wf_cnt, wf_retN, wf_seq, wf_ret, wf_drop, wf_asg, wf_asgT, wf_par, wf_if, wf_app, wf_setI, tg_name, tg_tup, add_int, add_str, add_list, add_tup, sub_int, mul_int, mod_int, fdiv_int, pow_int, lt_int, le_int, gt_int, ge_int, eq_int, eq_str, ne_int, ne_str, neg_int, abs_int, int_int, int_bool, tup_list, lst_tup, lst_list, len_str, len_list, len_tup, seq_list, seq_tup, seq_str, rng1_int, rng2_int, sl_list, sl_tup, sl_str, rev_list, rev_tup, upper_str, List.set_cons_zero, List.set_cons_succ, setAll, List.length_cons, List.length_nil, Bool.false_eq_true, if_true, if_false, ite_self, eq_self, Bool.not_true, Bool.not_false, line, Nat.reduceLeDiff, Nat.reduceLT, Nat.reduceAdd, Int.reduceLT, Int.reduceLE, true_and, and_true, ixt0, ixt1, ixt2, ixt3, ixl0, ixl1, ixl2, ixl3]
  cases d <;> simp [isiB, tyN, numB, wp_ok, op_some, op_none, bp_bool, ip_int, lp_list, tp_tup, slot_0, slot_s, WP_cB, wp_slot, wp_lit, wp_c1, wp_c2, wp_nil, wp_cons, wp_cN, wp_and, wp_or, wp_not, wp_if, wp_tup, wp_lst, wp_chain, wp_isi, wp_part0, wp_part, wp_sl, wp_call, wp_seq, wp_src, wf_next, wf_brk, wf_cnt, wf_retN, wf_seq, wf_ret, wf_drop, wf_asg, wf_asgT, wf_par, wf_if, wf_app, wf_setI, tg_name, tg_tup, add_int, add_str, add_list, add_tup, sub_int, mul_int, mod_int, fdiv_int, pow_int, lt_int, le_int, gt_int, ge_int, eq_int, eq_str, ne_int, ne_str, neg_int, abs_int, int_int, int_bool, tup_list, lst_tup, lst_list, len_str, len_list, len_tup, seq_list, seq_tup, seq_str, rng1_int, rng2_int, sl_list, sl_tup, sl_str, rev_list, rev_tup, upper_str, List.set_cons_zero, List.set_cons_succ, setAll, List.length_cons, List.length_nil, Bool.false_eq_true, if_true, if_false, ite_self, eq_self, Bool.not_true, Bool.not_false, line, Nat.reduceLeDiff, Nat.reduceLT, Nat.reduceAdd, Int.reduceLT, Int.reduceLE, true_and, and_true, ixt0, ixt1, ixt2, ixt3, ixl0, ixl1, ixl2, ixl3]
  rename_i i
  by_cases h : lo ≤ i <;> simp [h]
def smallS : Str := "abcdefghijklmnopqrstuvwxyz"
def signB : D → Bool
  | .str c => inS c smallS
  | _ => false
def nameB : D → Bool
  | .str z => decide (1 ≤ z.length) && decide (z.length ≤ 8) && (signs z).all signB
  | _ => false
theorem comp_sign {z : Str} {ρ : Ev.Env} {Q : D → Prop} (hz : z.length ≤ line) (h : Q (.bool ((signs z).all signB))) :
    WP (cComp [1] false [1] (cSeq (cSlot 0)) cYes (c2 inD (cSlot 1) (cLit (.str "abcdefghijklmnopqrstuvwxyz"))) (some (.str z) :: none :: ρ)) fun a => OP (allG [a]) Q := by
  refine wp_compM (fun d => .bool (signB d)) ?_
  simp only [wp_ok, op_some, op_none, bp_bool, ip_int, lp_list, tp_tup, slot_0, slot_s, WP_cB, wp_slot, wp_lit, wp_c1, wp_c2, wp_nil, wp_cons, wp_cN, wp_and, wp_or, wp_not, wp_if, wp_tup, wp_lst, wp_chain, wp_isi, wp_part0, wp_part, wp_sl, wp_call, wp_seq, wp_src, wf_next, wf_brk, wf_cnt, wf_retN, wf_seq, wf_ret, wf_drop, wf_asg, wf_asgT, wf_par, wf_if, wf_app, wf_setI, tg_name, tg_tup, add_int, add_str, add_list, add_tup, sub_int, mul_int, mod_int, fdiv_int, pow_int, lt_int, le_int, gt_int, ge_int, eq_int, eq_str, ne_int, ne_str, neg_int, abs_int, int_int, int_bool, tup_list, lst_tup, lst_list, len_str, len_list, len_tup, seq_list, seq_tup, seq_str, rng1_int, rng2_int, sl_list, sl_tup, sl_str, rev_list, rev_tup, upper_str, List.set_cons_zero, List.set_cons_succ, setAll, List.length_cons, List.length_nil, Bool.false_eq_true, if_true, if_false, ite_self, eq_self, Bool.not_true, Bool.not_false, line, Nat.reduceLeDiff, Nat.reduceLT, Nat.reduceAdd, Int.reduceLT, Int.reduceLE, true_and, and_true, ixt0, ixt1, ixt2, ixt3, ixl0, ixl1, ixl2, ixl3]
  refine ⟨by rw [signs_len]; exact hz, fun d hd => ?_, ?_⟩
  · obtain ⟨c, rfl⟩ := signs_mem hd
    simp only [in_str]
    rfl
  · rw [all_map]
    exact h
theorem is_name_ok (n : Nat) (d : D) (w : Wf line d) : WP (evF T G (n + 1) 0 [d]) fun v => v = .bool (nameB d) := by
  rw [e0]
  refine wp_run rfl ?_
  simp only [bd0, startE, List.map, List.replicate, List.append, List.cons_append, List.nil_append, wp_ok, op_some, op_none, bp_bool, ip_int, lp_list, tp_tup, slot_0, slot_s, WP_cB, wp_slot, wp_lit, wp_c1, wp_c2, wp_nil, wp_cons, wp_cN, wp_and, wp_or, wp_not, wp_if, wp_tup, wp_lst, wp_chain, wp_isi, wp_part0, wp_part, wp_sl, wp_call, wp_seq, wp_src, wf_next, wf_brk, wf_cnt, wf_retN, wf_seq, wf_ret, wf_drop, wf_asg, wf_asgT, wf_par, wf_if, wf_app, wf_setI, tg_name, tg_tup, add_int, add_str, add_list, add_tup, sub_int, mul_int, mod_int, fdiv_int, pow_int, lt_int, le_int, gt_int, ge_int, eq_int, eq_str, ne_int, ne_str, neg_int, abs_int, int_int, int_bool, tup_list, lst_tup, lst_list, len_str, len_list, len_tup, seq_list, seq_tup, seq_str, rng1_int, rng2_int, sl_list, sl_tup, sl_str, rev_list, rev_tup, upper_str, List.set_cons_zero, List.set_cons_succ, setAll, List.length_cons, List.length_nil, Bool.false_eq_true, if_true, if_false, ite_self, eq_self, Bool.not_true, Bool.not_false, line, Nat.reduceLeDiff, Nat.reduceLT, Nat.reduceAdd, Int.reduceLT, Int.reduceLE, true_and, and_true, ixt0, ixt1, ixt2, ixt3, ixl0, ixl1, ixl2, ixl3]
  cases w <;> simp [isiB, tyN, nameB, wp_ok, op_some, op_none, bp_bool, ip_int, lp_list, tp_tup, slot_0, slot_s, WP_cB, wp_slot, wp_lit, wp_c1, wp_c2, wp_nil, wp_cons, wp_cN, wp_and, wp_or, wp_not, wp_if, wp_tup, wp_lst, wp_chain, wp_isi, wp_part0, wp_part, wp_sl, wp_call, wp_seq, wp_src, wf_next, wf_brk, wf_cnt, wf_retN, wf_seq, wf_ret, wf_drop, wf_asg, wf_asgT, wf_par, wf_if, wf_app, wf_setI, tg_name, tg_tup, add_int, add_str, add_list, add_tup, sub_int, mul_int, mod_int, fdiv_int, pow_int, lt_int, le_int, gt_int, ge_int, eq_int, eq_str, ne_int, ne_str, neg_int, abs_int, int_int, int_bool, tup_list, lst_tup, lst_list, len_str, len_list, len_tup, seq_list, seq_tup, seq_str, rng1_int, rng2_int, sl_list, sl_tup, sl_str, rev_list, rev_tup, upper_str, List.set_cons_zero, List.set_cons_succ, setAll, List.length_cons, List.length_nil, Bool.false_eq_true, if_true, if_false, ite_self, eq_self, Bool.not_true, Bool.not_false, line, Nat.reduceLeDiff, Nat.reduceLT, Nat.reduceAdd, Int.reduceLT, Int.reduceLE, true_and, and_true, ixt0, ixt1, ixt2, ixt3, ixl0, ixl1, ixl2, ixl3]
  rename_i z hz
  refine ⟨hz, ?_⟩
  by_cases h1 : 1 ≤ (z.length : Int) <;> by_cases h2 : (z.length : Int) ≤ 8 <;> simp [h1, h2]
  · refine comp_sign hz ?_
    have a1 : 1 ≤ z.length := by omega
    have a2 : z.length ≤ 8 := by omega
    simp [a1, a2]
  · intro a b; omega
  · intro a b; omega
  · intro a b; omega
theorem law_is_name_ok (n : Nat) (d : D) (w : Wf line d) : WP (evF T G (n + 1) 8 [d]) fun v => v = .bool (nameB d) := by
  rw [e8]
  refine wp_run rfl ?_
  simp only [bd8, startE, List.map, List.replicate, List.append, List.cons_append, List.nil_append, wp_ok, op_some, op_none, bp_bool, ip_int, lp_list, tp_tup, slot_0, slot_s, WP_cB, wp_slot, wp_lit, wp_c1, wp_c2, wp_nil, wp_cons, wp_cN, wp_and, wp_or, wp_not, wp_if, wp_tup, wp_lst, wp_chain, wp_isi, wp_part0, wp_part, wp_sl, wp_call, wp_seq, wp_src, wf_next, wf_brk, wf_cnt, wf_retN, wf_seq, wf_ret, wf_drop, wf_asg, wf_asgT, wf_par, wf_if, wf_app, wf_setI, tg_name, tg_tup, add_int, add_str, add_list, add_tup, sub_int, mul_int, mod_int, fdiv_int, pow_int, lt_int, le_int, gt_int, ge_int, eq_int, eq_str, ne_int, ne_str, neg_int, abs_int, int_int, int_bool, tup_list, lst_tup, lst_list, len_str, len_list, len_tup, seq_list, seq_tup, seq_str, rng1_int, rng2_int, sl_list, sl_tup, sl_str, rev_list, rev_tup, upper_str, List.set_cons_zero, List.set_cons_succ, setAll, List.length_cons, List.length_nil, Bool.false_eq_true, if_true, if_false, ite_self, eq_self, Bool.not_true, Bool.not_false, line, Nat.reduceLeDiff, Nat.reduceLT, Nat.reduceAdd, Int.reduceLT, Int.reduceLE, true_and, and_true, ixt0, ixt1, ixt2, ixt3, ixl0, ixl1, ixl2, ixl3]
  cases w <;> simp [isiB, tyN, nameB, wp_ok, op_some, op_none, bp_bool, ip_int, lp_list, tp_tup, slot_0, slot_s, WP_cB, wp_slot, wp_lit, wp_c1, wp_c2, wp_nil, wp_cons, wp_cN, wp_and, wp_or, wp_not, wp_if, wp_tup, wp_lst, wp_chain, wp_isi, wp_part0, wp_part, wp_sl, wp_call, wp_seq, wp_src, wf_next, wf_brk, wf_cnt, wf_retN, wf_seq, wf_ret, wf_drop, wf_asg, wf_asgT, wf_par, wf_if, wf_app, wf_setI, tg_name, tg_tup, add_int, add_str, add_list, add_tup, sub_int, mul_int, mod_int, fdiv_int, pow_int, lt_int, le_int, gt_int, ge_int, eq_int, eq_str, ne_int, ne_str, neg_int, abs_int, int_int, int_bool, tup_list, lst_tup, lst_list, len_str, len_list, len_tup, seq_list, seq_tup, seq_str, rng1_int, rng2_int, sl_list, sl_tup, sl_str, rev_list, rev_tup, upper_str, List.set_cons_zero, List.set_cons_succ, setAll, List.length_cons, List.length_nil, Bool.false_eq_true, if_true, if_false, ite_self, eq_self, Bool.not_true, Bool.not_false, line, Nat.reduceLeDiff, Nat.reduceLT, Nat.reduceAdd, Int.reduceLT, Int.reduceLE, true_and, and_true, ixt0, ixt1, ixt2, ixt3, ixl0, ixl1, ixl2, ixl3]
  rename_i z hz
  refine ⟨hz, ?_⟩
  by_cases h1 : 0 < z.length <;> by_cases h2 : (z.length : Int) < 9 <;> simp [h1, h2]
  · refine comp_sign hz ?_
    have a1 : 1 ≤ z.length := by omega
    have a2 : z.length ≤ 8 := by omega
    simp [a1, a2]
  · intro a b; omega
  · intro a b; omega
  · intro a b; omega
def headB (w : Str) (k : Nat) : D → Bool
  | .tuple (.str z :: xs) => decide (xs.length + 1 = k) && decide (z = w)
  | _ => false
theorem is_headed_ok (n : Nat) (d : D) (w : Str) (k : Nat) (hk : 0 < k) : WP (evF T G (n + 1) 2 [d, .str w, .int (k : Nat)]) fun v => v = .bool (headB w k d) := by
  rw [e2]
  refine wp_run rfl ?_
  simp only [bd2, startE, List.map, List.replicate, List.append, List.cons_append, List.nil_append, wp_ok, op_some, op_none, bp_bool, ip_int, lp_list, tp_tup, slot_0, slot_s, WP_cB, wp_slot, wp_lit, wp_c1, wp_c2, wp_nil, wp_cons, wp_cN, wp_and, wp_or, wp_not, wp_if, wp_tup, wp_lst, wp_chain, wp_isi, wp_part0, wp_part, wp_sl, wp_call, wp_seq, wp_src, wf_next, wf_brk, wf_cnt, wf_retN, wf_seq, wf_ret, wf_drop, wf_asg, wf_asgT, wf_par, wf_if, wf_app, wf_setI, tg_name, tg_tup, add_int, add_str, add_list, add_tup, sub_int, mul_int, mod_int, fdiv_int, pow_int, lt_int, le_int, gt_int, ge_int, eq_int, eq_str, ne_int, ne_str, neg_int, abs_int, int_int, int_bool, tup_list, lst_tup, lst_list, len_str, len_list, len_tup, seq_list, seq_tup, seq_str, rng1_int, rng2_int, sl_list, sl_tup, sl_str, rev_list, rev_tup, upper_str, List.set_cons_zero, List.set_cons_succ, setAll, List.length_cons, List.length_nil, Bool.false_eq_true, if_true, if_false, ite_self, eq_self, Bool.not_true, Bool.not_false, line, Nat.reduceLeDiff, Nat.reduceLT, Nat.reduceAdd, Int.reduceLT, Int.reduceLE, true_and, and_true, ixt0, ixt1, ixt2, ixt3, ixl0, ixl1, ixl2, ixl3]
  cases d <;> simp [isiB, tyN, headB, wp_ok, op_some, op_none, bp_bool, ip_int, lp_list, tp_tup, slot_0, slot_s, WP_cB, wp_slot, wp_lit, wp_c1, wp_c2, wp_nil, wp_cons, wp_cN, wp_and, wp_or, wp_not, wp_if, wp_tup, wp_lst, wp_chain, wp_isi, wp_part0, wp_part, wp_sl, wp_call, wp_seq, wp_src, wf_next, wf_brk, wf_cnt, wf_retN, wf_seq, wf_ret, wf_drop, wf_asg, wf_asgT, wf_par, wf_if, wf_app, wf_setI, tg_name, tg_tup, add_int, add_str, add_list, add_tup, sub_int, mul_int, mod_int, fdiv_int, pow_int, lt_int, le_int, gt_int, ge_int, eq_int, eq_str, ne_int, ne_str, neg_int, abs_int, int_int, int_bool, tup_list, lst_tup, lst_list, len_str, len_list, len_tup, seq_list, seq_tup, seq_str, rng1_int, rng2_int, sl_list, sl_tup, sl_str, rev_list, rev_tup, upper_str, List.set_cons_zero, List.set_cons_succ, setAll, List.length_cons, List.length_nil, Bool.false_eq_true, if_true, if_false, ite_self, eq_self, Bool.not_true, Bool.not_false, line, Nat.reduceLeDiff, Nat.reduceLT, Nat.reduceAdd, Int.reduceLT, Int.reduceLE, true_and, and_true, ixt0, ixt1, ixt2, ixt3, ixl0, ixl1, ixl2, ixl3]
  rename_i xs
  cases xs with
  | nil =>
    have : ¬ ((0 : Int) = (k : Int)) := by omega
    simp [this, headB]
  | cons x xs =>
    by_cases h : ((xs.length : Int) + 1 = (k : Int))
    · have h' : xs.length + 1 = k := by omega
      cases x <;> simp [h, h', headB, wp_ok, op_some, op_none, bp_bool, ip_int, lp_list, tp_tup, slot_0, slot_s, WP_cB, wp_slot, wp_lit, wp_c1, wp_c2, wp_nil, wp_cons, wp_cN, wp_and, wp_or, wp_not, wp_if, wp_tup, wp_lst, wp_chain, wp_isi, wp_part0, wp_part, wp_sl, wp_call, wp_seq, wp_src, wf_next, wf_brk, wf_cnt, wf_retN, wf_seq, wf_ret, wf_drop, wf_asg, wf_asgT, wf_par, wf_if, wf_app, wf_setI, tg_name, tg_tup, add_int, add_str, add_list, add_tup, sub_int, mul_int, mod_int, fdiv_int, pow_int, lt_int, le_int, gt_int, ge_int, eq_int, eq_str, ne_int, ne_str, neg_int, abs_int, int_int, int_bool, tup_list, lst_tup, lst_list, len_str, len_list, len_tup, seq_list, seq_tup, seq_str, rng1_int, rng2_int, sl_list, sl_tup, sl_str, rev_list, rev_tup, upper_str, List.set_cons_zero, List.set_cons_succ, setAll, List.length_cons, List.length_nil, Bool.false_eq_true, if_true, if_false, ite_self, eq_self, Bool.not_true, Bool.not_false, line, Nat.reduceLeDiff, Nat.reduceLT, Nat.reduceAdd, Int.reduceLT, Int.reduceLE, true_and, and_true, ixt0, ixt1, ixt2, ixt3, ixl0, ixl1, ixl2, ixl3]
    · have h' : ¬ (xs.length + 1 = k) := by omega
      simp [h]
      cases x <;> simp [headB, h']
def neB : D → D → Bool
  | .str x, .str y => !decide (x = y)
  | _, _ => false
def ruleB : D → Bool
  | .tuple [.str w, a] => decide (w = "never") && nameB a
  | .tuple [.str w, a, b] => decide (w = "same") && nameB a && numB 1 1000 b
  | .tuple [.str w, a, b, c] => if w = "begin" then nameB a && numB 1 12 b && numB 1 1000 c else decide (w = "both") && nameB a && nameB b && neB a b && numB 1 1000 c
  | _ => false
theorem number_eq (n : Nat) (d : D) (lo hi : Int) : evF T G (n + 1) 1 [d, .int lo, .int hi] = .ok (.bool (numB lo hi d)) := (is_number_ok n d lo hi).ok
theorem between_eq (n : Nat) (d : D) (lo hi : Int) : evF T G (n + 1) 9 [d, .int lo, .int hi] = .ok (.bool (numB lo hi d)) := (law_between_ok n d lo hi).ok
theorem name_eq (n : Nat) (d : D) (w : Wf line d) : evF T G (n + 1) 0 [d] = .ok (.bool (nameB d)) := (is_name_ok n d w).ok
theorem lname_eq (n : Nat) (d : D) (w : Wf line d) : evF T G (n + 1) 8 [d] = .ok (.bool (nameB d)) := (law_is_name_ok n d w).ok
theorem head2 (n : Nat) (d : D) (w : Str) : evF T G (n + 1) 2 [d, .str w, .int 2] = .ok (.bool (headB w 2 d)) := (is_headed_ok n d w 2 (by decide)).ok
theorem head3 (n : Nat) (d : D) (w : Str) : evF T G (n + 1) 2 [d, .str w, .int 3] = .ok (.bool (headB w 3 d)) := (is_headed_ok n d w 3 (by decide)).ok
theorem head4 (n : Nat) (d : D) (w : Str) : evF T G (n + 1) 2 [d, .str w, .int 4] = .ok (.bool (headB w 4 d)) := (is_headed_ok n d w 4 (by decide)).ok
theorem name_str {a : D} (h : nameB a = true) : ∃ z, a = .str z := by
  cases a <;> first | exact ⟨_, rfl⟩ | cases h
theorem is_rule_ok (n : Nat) (d : D) (w : Wf line d) : WP (evF T G (n + 2) 3 [d]) fun v => v = .bool (ruleB d) := by
  rw [e3]
  refine wp_run rfl ?_
  simp only [bd3, startE, List.map, List.replicate, List.append, List.cons_append, List.nil_append, wp_ok, op_some, op_none, bp_bool, ip_int, lp_list, tp_tup, slot_0, slot_s, WP_cB, wp_slot, wp_lit, wp_c1, wp_c2, wp_nil, wp_cons, wp_cN, wp_and, wp_or, wp_not, wp_if, wp_tup, wp_lst, wp_chain, wp_isi, wp_part0, wp_part, wp_sl, wp_call, wp_seq, wp_src, wf_next, wf_brk, wf_cnt, wf_retN, wf_seq, wf_ret, wf_drop, wf_asg, wf_asgT, wf_par, wf_if, wf_app, wf_setI, tg_name, tg_tup, add_int, add_str, add_list, add_tup, sub_int, mul_int, mod_int, fdiv_int, pow_int, lt_int, le_int, gt_int, ge_int, eq_int, eq_str, ne_int, ne_str, neg_int, abs_int, int_int, int_bool, tup_list, lst_tup, lst_list, len_str, len_list, len_tup, seq_list, seq_tup, seq_str, rng1_int, rng2_int, sl_list, sl_tup, sl_str, rev_list, rev_tup, upper_str, List.set_cons_zero, List.set_cons_succ, setAll, List.length_cons, List.length_nil, Bool.false_eq_true, if_true, if_false, ite_self, eq_self, Bool.not_true, Bool.not_false, line, Nat.reduceLeDiff, Nat.reduceLT, Nat.reduceAdd, Int.reduceLT, Int.reduceLE, true_and, and_true, ixt0, ixt1, ixt2, ixt3, ixl0, ixl1, ixl2, ixl3, head2, head3, head4]
  cases w with
  | tup hl hx =>
    rename_i xs
    rcases xs with _ | ⟨x, _ | ⟨a, _ | ⟨b, _ | ⟨c, _ | ⟨e, r⟩⟩⟩⟩⟩
    · simp [headB, ruleB]
    · cases x <;> simp [headB, ruleB]
    · have wa := hx a (by simp)
      cases x <;> simp [headB, ruleB, name_eq, wa, wp_ok, op_some, op_none, bp_bool, ip_int, lp_list, tp_tup, slot_0, slot_s, WP_cB, wp_slot, wp_lit, wp_c1, wp_c2, wp_nil, wp_cons, wp_cN, wp_and, wp_or, wp_not, wp_if, wp_tup, wp_lst, wp_chain, wp_isi, wp_part0, wp_part, wp_sl, wp_call, wp_seq, wp_src, wf_next, wf_brk, wf_cnt, wf_retN, wf_seq, wf_ret, wf_drop, wf_asg, wf_asgT, wf_par, wf_if, wf_app, wf_setI, tg_name, tg_tup, add_int, add_str, add_list, add_tup, sub_int, mul_int, mod_int, fdiv_int, pow_int, lt_int, le_int, gt_int, ge_int, eq_int, eq_str, ne_int, ne_str, neg_int, abs_int, int_int, int_bool, tup_list, lst_tup, lst_list, len_str, len_list, len_tup, seq_list, seq_tup, seq_str, rng1_int, rng2_int, sl_list, sl_tup, sl_str, rev_list, rev_tup, upper_str, List.set_cons_zero, List.set_cons_succ, setAll, List.length_cons, List.length_nil, Bool.false_eq_true, if_true, if_false, ite_self, eq_self, Bool.not_true, Bool.not_false, line, Nat.reduceLeDiff, Nat.reduceLT, Nat.reduceAdd, Int.reduceLT, Int.reduceLE, true_and, and_true, ixt0, ixt1, ixt2, ixt3, ixl0, ixl1, ixl2, ixl3]
      rename_i z
      by_cases h : z = ("never" : Str) <;> simp [h]
    · have wa := hx a (by simp)
      have wb := hx b (by simp)
      cases x <;> simp [headB, ruleB, name_eq, number_eq, wa, wb, wp_ok, op_some, op_none, bp_bool, ip_int, lp_list, tp_tup, slot_0, slot_s, WP_cB, wp_slot, wp_lit, wp_c1, wp_c2, wp_nil, wp_cons, wp_cN, wp_and, wp_or, wp_not, wp_if, wp_tup, wp_lst, wp_chain, wp_isi, wp_part0, wp_part, wp_sl, wp_call, wp_seq, wp_src, wf_next, wf_brk, wf_cnt, wf_retN, wf_seq, wf_ret, wf_drop, wf_asg, wf_asgT, wf_par, wf_if, wf_app, wf_setI, tg_name, tg_tup, add_int, add_str, add_list, add_tup, sub_int, mul_int, mod_int, fdiv_int, pow_int, lt_int, le_int, gt_int, ge_int, eq_int, eq_str, ne_int, ne_str, neg_int, abs_int, int_int, int_bool, tup_list, lst_tup, lst_list, len_str, len_list, len_tup, seq_list, seq_tup, seq_str, rng1_int, rng2_int, sl_list, sl_tup, sl_str, rev_list, rev_tup, upper_str, List.set_cons_zero, List.set_cons_succ, setAll, List.length_cons, List.length_nil, Bool.false_eq_true, if_true, if_false, ite_self, eq_self, Bool.not_true, Bool.not_false, line, Nat.reduceLeDiff, Nat.reduceLT, Nat.reduceAdd, Int.reduceLT, Int.reduceLE, true_and, and_true, ixt0, ixt1, ixt2, ixt3, ixl0, ixl1, ixl2, ixl3]
      rename_i z
      by_cases h : z = ("same" : Str) <;> simp [h]
      cases nameB a <;> simp
    · have wa := hx a (by simp)
      have wb := hx b (by simp)
      have wc := hx c (by simp)
      cases x <;> simp [headB, ruleB, name_eq, number_eq, wa, wb, wc, wp_ok, op_some, op_none, bp_bool, ip_int, lp_list, tp_tup, slot_0, slot_s, WP_cB, wp_slot, wp_lit, wp_c1, wp_c2, wp_nil, wp_cons, wp_cN, wp_and, wp_or, wp_not, wp_if, wp_tup, wp_lst, wp_chain, wp_isi, wp_part0, wp_part, wp_sl, wp_call, wp_seq, wp_src, wf_next, wf_brk, wf_cnt, wf_retN, wf_seq, wf_ret, wf_drop, wf_asg, wf_asgT, wf_par, wf_if, wf_app, wf_setI, tg_name, tg_tup, add_int, add_str, add_list, add_tup, sub_int, mul_int, mod_int, fdiv_int, pow_int, lt_int, le_int, gt_int, ge_int, eq_int, eq_str, ne_int, ne_str, neg_int, abs_int, int_int, int_bool, tup_list, lst_tup, lst_list, len_str, len_list, len_tup, seq_list, seq_tup, seq_str, rng1_int, rng2_int, sl_list, sl_tup, sl_str, rev_list, rev_tup, upper_str, List.set_cons_zero, List.set_cons_succ, setAll, List.length_cons, List.length_nil, Bool.false_eq_true, if_true, if_false, ite_self, eq_self, Bool.not_true, Bool.not_false, line, Nat.reduceLeDiff, Nat.reduceLT, Nat.reduceAdd, Int.reduceLT, Int.reduceLE, true_and, and_true, ixt0, ixt1, ixt2, ixt3, ixl0, ixl1, ixl2, ixl3]
      rename_i z
      by_cases h : z = ("begin" : Str)
      · simp [h]
        cases nameB a <;> cases numB 1 12 b <;> simp
      · simp [h]
        by_cases h' : z = ("both" : Str)
        · simp [h']
          cases ha : nameB a <;> simp
          cases hb : nameB b <;> simp
          obtain ⟨p, rfl⟩ := name_str ha
          obtain ⟨q, rfl⟩ := name_str hb
          simp only [ne_str, bp_bool, neB]
          by_cases hpq : p = q <;> simp [hpq]
        · simp [h']
    · cases x <;> simp [headB, ruleB]
  | _ => simp [headB, ruleB]
theorem kn1 : ¬ (("never" : Str) = "begin") := by decide +kernel
theorem kn2 : ¬ (("never" : Str) = "both") := by decide +kernel
theorem kn3 : ¬ (("never" : Str) = "same") := by decide +kernel
theorem kn4 : ¬ (("same" : Str) = "never") := by decide +kernel
theorem ks1 : ¬ (("same" : Str) = "begin") := by decide +kernel
theorem ks2 : ¬ (("same" : Str) = "both") := by decide +kernel
theorem law_is_rule_ok (n : Nat) (d : D) (w : Wf line d) : WP (evF T G (n + 2) 10 [d]) fun v => v = .bool (ruleB d) := by
  rw [e10]
  refine wp_run rfl ?_
  simp only [bd10, startE, List.map, List.replicate, List.append, List.cons_append, List.nil_append, wp_ok, op_some, op_none, bp_bool, ip_int, lp_list, tp_tup, slot_0, slot_s, WP_cB, wp_slot, wp_lit, wp_c1, wp_c2, wp_nil, wp_cons, wp_cN, wp_and, wp_or, wp_not, wp_if, wp_tup, wp_lst, wp_chain, wp_isi, wp_part0, wp_part, wp_sl, wp_call, wp_seq, wp_src, wf_next, wf_brk, wf_cnt, wf_retN, wf_seq, wf_ret, wf_drop, wf_asg, wf_asgT, wf_par, wf_if, wf_app, wf_setI, tg_name, tg_tup, add_int, add_str, add_list, add_tup, sub_int, mul_int, mod_int, fdiv_int, pow_int, lt_int, le_int, gt_int, ge_int, eq_int, eq_str, ne_int, ne_str, neg_int, abs_int, int_int, int_bool, tup_list, lst_tup, lst_list, len_str, len_list, len_tup, seq_list, seq_tup, seq_str, rng1_int, rng2_int, sl_list, sl_tup, sl_str, rev_list, rev_tup, upper_str, List.set_cons_zero, List.set_cons_succ, setAll, List.length_cons, List.length_nil, Bool.false_eq_true, if_true, if_false, ite_self, eq_self, Bool.not_true, Bool.not_false, line, Nat.reduceLeDiff, Nat.reduceLT, Nat.reduceAdd, Int.reduceLT, Int.reduceLE, true_and, and_true, ixt0, ixt1, ixt2, ixt3, ixl0, ixl1, ixl2, ixl3]
  cases w with
  | tup hl hx =>
    rename_i xs
    rcases xs with _ | ⟨x, _ | ⟨a, _ | ⟨b, _ | ⟨c, _ | ⟨e, r⟩⟩⟩⟩⟩
    · simp [isiB, tyN, ruleB, wp_ok, op_some, op_none, bp_bool, ip_int, lp_list, tp_tup, slot_0, slot_s, WP_cB, wp_slot, wp_lit, wp_c1, wp_c2, wp_nil, wp_cons, wp_cN, wp_and, wp_or, wp_not, wp_if, wp_tup, wp_lst, wp_chain, wp_isi, wp_part0, wp_part, wp_sl, wp_call, wp_seq, wp_src, wf_next, wf_brk, wf_cnt, wf_retN, wf_seq, wf_ret, wf_drop, wf_asg, wf_asgT, wf_par, wf_if, wf_app, wf_setI, tg_name, tg_tup, add_int, add_str, add_list, add_tup, sub_int, mul_int, mod_int, fdiv_int, pow_int, lt_int, le_int, gt_int, ge_int, eq_int, eq_str, ne_int, ne_str, neg_int, abs_int, int_int, int_bool, tup_list, lst_tup, lst_list, len_str, len_list, len_tup, seq_list, seq_tup, seq_str, rng1_int, rng2_int, sl_list, sl_tup, sl_str, rev_list, rev_tup, upper_str, List.set_cons_zero, List.set_cons_succ, setAll, List.length_cons, List.length_nil, Bool.false_eq_true, if_true, if_false, ite_self, eq_self, Bool.not_true, Bool.not_false, line, Nat.reduceLeDiff, Nat.reduceLT, Nat.reduceAdd, Int.reduceLT, Int.reduceLE, true_and, and_true, ixt0, ixt1, ixt2, ixt3, ixl0, ixl1, ixl2, ixl3]
    · simp [isiB, tyN, ruleB, wp_ok, op_some, op_none, bp_bool, ip_int, lp_list, tp_tup, slot_0, slot_s, WP_cB, wp_slot, wp_lit, wp_c1, wp_c2, wp_nil, wp_cons, wp_cN, wp_and, wp_or, wp_not, wp_if, wp_tup, wp_lst, wp_chain, wp_isi, wp_part0, wp_part, wp_sl, wp_call, wp_seq, wp_src, wf_next, wf_brk, wf_cnt, wf_retN, wf_seq, wf_ret, wf_drop, wf_asg, wf_asgT, wf_par, wf_if, wf_app, wf_setI, tg_name, tg_tup, add_int, add_str, add_list, add_tup, sub_int, mul_int, mod_int, fdiv_int, pow_int, lt_int, le_int, gt_int, ge_int, eq_int, eq_str, ne_int, ne_str, neg_int, abs_int, int_int, int_bool, tup_list, lst_tup, lst_list, len_str, len_list, len_tup, seq_list, seq_tup, seq_str, rng1_int, rng2_int, sl_list, sl_tup, sl_str, rev_list, rev_tup, upper_str, List.set_cons_zero, List.set_cons_succ, setAll, List.length_cons, List.length_nil, Bool.false_eq_true, if_true, if_false, ite_self, eq_self, Bool.not_true, Bool.not_false, line, Nat.reduceLeDiff, Nat.reduceLT, Nat.reduceAdd, Int.reduceLT, Int.reduceLE, true_and, and_true, ixt0, ixt1, ixt2, ixt3, ixl0, ixl1, ixl2, ixl3]
    · have wa := hx a (by simp)
      cases x <;> simp [isiB, tyN, ruleB, lname_eq, wa, wp_ok, op_some, op_none, bp_bool, ip_int, lp_list, tp_tup, slot_0, slot_s, WP_cB, wp_slot, wp_lit, wp_c1, wp_c2, wp_nil, wp_cons, wp_cN, wp_and, wp_or, wp_not, wp_if, wp_tup, wp_lst, wp_chain, wp_isi, wp_part0, wp_part, wp_sl, wp_call, wp_seq, wp_src, wf_next, wf_brk, wf_cnt, wf_retN, wf_seq, wf_ret, wf_drop, wf_asg, wf_asgT, wf_par, wf_if, wf_app, wf_setI, tg_name, tg_tup, add_int, add_str, add_list, add_tup, sub_int, mul_int, mod_int, fdiv_int, pow_int, lt_int, le_int, gt_int, ge_int, eq_int, eq_str, ne_int, ne_str, neg_int, abs_int, int_int, int_bool, tup_list, lst_tup, lst_list, len_str, len_list, len_tup, seq_list, seq_tup, seq_str, rng1_int, rng2_int, sl_list, sl_tup, sl_str, rev_list, rev_tup, upper_str, List.set_cons_zero, List.set_cons_succ, setAll, List.length_cons, List.length_nil, Bool.false_eq_true, if_true, if_false, ite_self, eq_self, Bool.not_true, Bool.not_false, line, Nat.reduceLeDiff, Nat.reduceLT, Nat.reduceAdd, Int.reduceLT, Int.reduceLE, true_and, and_true, ixt0, ixt1, ixt2, ixt3, ixl0, ixl1, ixl2, ixl3]
      rename_i z
      cases nameB a <;> simp
    · have wa := hx a (by simp)
      have wb := hx b (by simp)
      cases x <;> simp [isiB, tyN, ruleB, lname_eq, between_eq, wa, wb, wp_ok, op_some, op_none, bp_bool, ip_int, lp_list, tp_tup, slot_0, slot_s, WP_cB, wp_slot, wp_lit, wp_c1, wp_c2, wp_nil, wp_cons, wp_cN, wp_and, wp_or, wp_not, wp_if, wp_tup, wp_lst, wp_chain, wp_isi, wp_part0, wp_part, wp_sl, wp_call, wp_seq, wp_src, wf_next, wf_brk, wf_cnt, wf_retN, wf_seq, wf_ret, wf_drop, wf_asg, wf_asgT, wf_par, wf_if, wf_app, wf_setI, tg_name, tg_tup, add_int, add_str, add_list, add_tup, sub_int, mul_int, mod_int, fdiv_int, pow_int, lt_int, le_int, gt_int, ge_int, eq_int, eq_str, ne_int, ne_str, neg_int, abs_int, int_int, int_bool, tup_list, lst_tup, lst_list, len_str, len_list, len_tup, seq_list, seq_tup, seq_str, rng1_int, rng2_int, sl_list, sl_tup, sl_str, rev_list, rev_tup, upper_str, List.set_cons_zero, List.set_cons_succ, setAll, List.length_cons, List.length_nil, Bool.false_eq_true, if_true, if_false, ite_self, eq_self, Bool.not_true, Bool.not_false, line, Nat.reduceLeDiff, Nat.reduceLT, Nat.reduceAdd, Int.reduceLT, Int.reduceLE, true_and, and_true, ixt0, ixt1, ixt2, ixt3, ixl0, ixl1, ixl2, ixl3]
      rename_i z
      cases nameB a <;> simp
      by_cases h : z = ("never" : Str)
      · simp [h, kn3]
      by_cases h2 : z = ("same" : Str) <;> simp [h, h2, kn4]
    · have wa := hx a (by simp)
      have wb := hx b (by simp)
      have wc := hx c (by simp)
      cases x <;> simp [isiB, tyN, ruleB, lname_eq, between_eq, wa, wb, wc, wp_ok, op_some, op_none, bp_bool, ip_int, lp_list, tp_tup, slot_0, slot_s, WP_cB, wp_slot, wp_lit, wp_c1, wp_c2, wp_nil, wp_cons, wp_cN, wp_and, wp_or, wp_not, wp_if, wp_tup, wp_lst, wp_chain, wp_isi, wp_part0, wp_part, wp_sl, wp_call, wp_seq, wp_src, wf_next, wf_brk, wf_cnt, wf_retN, wf_seq, wf_ret, wf_drop, wf_asg, wf_asgT, wf_par, wf_if, wf_app, wf_setI, tg_name, tg_tup, add_int, add_str, add_list, add_tup, sub_int, mul_int, mod_int, fdiv_int, pow_int, lt_int, le_int, gt_int, ge_int, eq_int, eq_str, ne_int, ne_str, neg_int, abs_int, int_int, int_bool, tup_list, lst_tup, lst_list, len_str, len_list, len_tup, seq_list, seq_tup, seq_str, rng1_int, rng2_int, sl_list, sl_tup, sl_str, rev_list, rev_tup, upper_str, List.set_cons_zero, List.set_cons_succ, setAll, List.length_cons, List.length_nil, Bool.false_eq_true, if_true, if_false, ite_self, eq_self, Bool.not_true, Bool.not_false, line, Nat.reduceLeDiff, Nat.reduceLT, Nat.reduceAdd, Int.reduceLT, Int.reduceLE, true_and, and_true, ixt0, ixt1, ixt2, ixt3, ixl0, ixl1, ixl2, ixl3]
      rename_i z
      cases ha : nameB a <;> simp
      by_cases h : z = ("never" : Str)
      · simp [h, kn1, kn2]
      by_cases h2 : z = ("same" : Str)
      · simp [h2, ks1, ks2]
      simp [h, h2]
      cases numB 1 1000 c <;> simp
      by_cases h3 : z = ("begin" : Str) <;> simp [h3]
      by_cases h4 : z = ("both" : Str) <;> simp [h4]
      cases hb : nameB b <;> simp
      obtain ⟨p, rfl⟩ := name_str ha
      obtain ⟨q, rfl⟩ := name_str hb
      simp only [ne_str, bp_bool, neB]
    · have wa := hx a (by simp)
      cases x <;> simp [isiB, tyN, ruleB, lname_eq, wa, wp_ok, op_some, op_none, bp_bool, ip_int, lp_list, tp_tup, slot_0, slot_s, WP_cB, wp_slot, wp_lit, wp_c1, wp_c2, wp_nil, wp_cons, wp_cN, wp_and, wp_or, wp_not, wp_if, wp_tup, wp_lst, wp_chain, wp_isi, wp_part0, wp_part, wp_sl, wp_call, wp_seq, wp_src, wf_next, wf_brk, wf_cnt, wf_retN, wf_seq, wf_ret, wf_drop, wf_asg, wf_asgT, wf_par, wf_if, wf_app, wf_setI, tg_name, tg_tup, add_int, add_str, add_list, add_tup, sub_int, mul_int, mod_int, fdiv_int, pow_int, lt_int, le_int, gt_int, ge_int, eq_int, eq_str, ne_int, ne_str, neg_int, abs_int, int_int, int_bool, tup_list, lst_tup, lst_list, len_str, len_list, len_tup, seq_list, seq_tup, seq_str, rng1_int, rng2_int, sl_list, sl_tup, sl_str, rev_list, rev_tup, upper_str, List.set_cons_zero, List.set_cons_succ, setAll, List.length_cons, List.length_nil, Bool.false_eq_true, if_true, if_false, ite_self, eq_self, Bool.not_true, Bool.not_false, line, Nat.reduceLeDiff, Nat.reduceLT, Nat.reduceAdd, Int.reduceLT, Int.reduceLE, true_and, and_true, ixt0, ixt1, ixt2, ixt3, ixl0, ixl1, ixl2, ixl3]
      intro h1 h2
      split
      · omega
      · split
        · intro h3; omega
        · intro h3; omega
  | _ => simp [isiB, tyN, ruleB, wp_ok, op_some, op_none, bp_bool, ip_int, lp_list, tp_tup, slot_0, slot_s, WP_cB, wp_slot, wp_lit, wp_c1, wp_c2, wp_nil, wp_cons, wp_cN, wp_and, wp_or, wp_not, wp_if, wp_tup, wp_lst, wp_chain, wp_isi, wp_part0, wp_part, wp_sl, wp_call, wp_seq, wp_src, wf_next, wf_brk, wf_cnt, wf_retN, wf_seq, wf_ret, wf_drop, wf_asg, wf_asgT, wf_par, wf_if, wf_app, wf_setI, tg_name, tg_tup, add_int, add_str, add_list, add_tup, sub_int, mul_int, mod_int, fdiv_int, pow_int, lt_int, le_int, gt_int, ge_int, eq_int, eq_str, ne_int, ne_str, neg_int, abs_int, int_int, int_bool, tup_list, lst_tup, lst_list, len_str, len_list, len_tup, seq_list, seq_tup, seq_str, rng1_int, rng2_int, sl_list, sl_tup, sl_str, rev_list, rev_tup, upper_str, List.set_cons_zero, List.set_cons_succ, setAll, List.length_cons, List.length_nil, Bool.false_eq_true, if_true, if_false, ite_self, eq_self, Bool.not_true, Bool.not_false, line, Nat.reduceLeDiff, Nat.reduceLT, Nat.reduceAdd, Int.reduceLT, Int.reduceLE, true_and, and_true, ixt0, ixt1, ixt2, ixt3, ixl0, ixl1, ixl2, ixl3]
theorem rule_eq (n : Nat) (d : D) (w : Wf line d) : evF T G (n + 2) 3 [d] = .ok (.bool (ruleB d)) := (is_rule_ok n d w).ok
theorem lrule_eq (n : Nat) (d : D) (w : Wf line d) : evF T G (n + 2) 10 [d] = .ok (.bool (ruleB d)) := (law_is_rule_ok n d w).ok
def rulesB : D → Bool
  | .tuple xs => xs.all ruleB
  | _ => false
theorem are_rules_ok (n : Nat) (d : D) (w : Wf line d) : WP (evF T G (n + 3) 4 [d]) fun v => v = .bool (rulesB d) := by
  rw [e4]
  refine wp_run rfl ?_
  simp only [bd4, startE, List.map, List.replicate, List.append, List.cons_append, List.nil_append, wp_ok, op_some, op_none, bp_bool, ip_int, lp_list, tp_tup, slot_0, slot_s, WP_cB, wp_slot, wp_lit, wp_c1, wp_c2, wp_nil, wp_cons, wp_cN, wp_and, wp_or, wp_not, wp_if, wp_tup, wp_lst, wp_chain, wp_isi, wp_part0, wp_part, wp_sl, wp_call, wp_seq, wp_src, wf_next, wf_brk, wf_cnt, wf_retN, wf_seq, wf_ret, wf_drop, wf_asg, wf_asgT, wf_par, wf_if, wf_app, wf_setI, tg_name, tg_tup, add_int, add_str, add_list, add_tup, sub_int, mul_int, mod_int, fdiv_int, pow_int, lt_int, le_int, gt_int, ge_int, eq_int, eq_str, ne_int, ne_str, neg_int, abs_int, int_int, int_bool, tup_list, lst_tup, lst_list, len_str, len_list, len_tup, seq_list, seq_tup, seq_str, rng1_int, rng2_int, sl_list, sl_tup, sl_str, rev_list, rev_tup, upper_str, List.set_cons_zero, List.set_cons_succ, setAll, List.length_cons, List.length_nil, Bool.false_eq_true, if_true, if_false, ite_self, eq_self, Bool.not_true, Bool.not_false, line, Nat.reduceLeDiff, Nat.reduceLT, Nat.reduceAdd, Int.reduceLT, Int.reduceLE, true_and, and_true, ixt0, ixt1, ixt2, ixt3, ixl0, ixl1, ixl2, ixl3]
  cases w <;> simp [isiB, tyN, rulesB, wp_ok, op_some, op_none, bp_bool, ip_int, lp_list, tp_tup, slot_0, slot_s, WP_cB, wp_slot, wp_lit, wp_c1, wp_c2, wp_nil, wp_cons, wp_cN, wp_and, wp_or, wp_not, wp_if, wp_tup, wp_lst, wp_chain, wp_isi, wp_part0, wp_part, wp_sl, wp_call, wp_seq, wp_src, wf_next, wf_brk, wf_cnt, wf_retN, wf_seq, wf_ret, wf_drop, wf_asg, wf_asgT, wf_par, wf_if, wf_app, wf_setI, tg_name, tg_tup, add_int, add_str, add_list, add_tup, sub_int, mul_int, mod_int, fdiv_int, pow_int, lt_int, le_int, gt_int, ge_int, eq_int, eq_str, ne_int, ne_str, neg_int, abs_int, int_int, int_bool, tup_list, lst_tup, lst_list, len_str, len_list, len_tup, seq_list, seq_tup, seq_str, rng1_int, rng2_int, sl_list, sl_tup, sl_str, rev_list, rev_tup, upper_str, List.set_cons_zero, List.set_cons_succ, setAll, List.length_cons, List.length_nil, Bool.false_eq_true, if_true, if_false, ite_self, eq_self, Bool.not_true, Bool.not_false, line, Nat.reduceLeDiff, Nat.reduceLT, Nat.reduceAdd, Int.reduceLT, Int.reduceLE, true_and, and_true, ixt0, ixt1, ixt2, ixt3, ixl0, ixl1, ixl2, ixl3]
  rename_i xs hl hx
  refine wp_compM (fun d => .bool (ruleB d)) ?_
  simp only [wp_ok, op_some, op_none, bp_bool, ip_int, lp_list, tp_tup, slot_0, slot_s, WP_cB, wp_slot, wp_lit, wp_c1, wp_c2, wp_nil, wp_cons, wp_cN, wp_and, wp_or, wp_not, wp_if, wp_tup, wp_lst, wp_chain, wp_isi, wp_part0, wp_part, wp_sl, wp_call, wp_seq, wp_src, wf_next, wf_brk, wf_cnt, wf_retN, wf_seq, wf_ret, wf_drop, wf_asg, wf_asgT, wf_par, wf_if, wf_app, wf_setI, tg_name, tg_tup, add_int, add_str, add_list, add_tup, sub_int, mul_int, mod_int, fdiv_int, pow_int, lt_int, le_int, gt_int, ge_int, eq_int, eq_str, ne_int, ne_str, neg_int, abs_int, int_int, int_bool, tup_list, lst_tup, lst_list, len_str, len_list, len_tup, seq_list, seq_tup, seq_str, rng1_int, rng2_int, sl_list, sl_tup, sl_str, rev_list, rev_tup, upper_str, List.set_cons_zero, List.set_cons_succ, setAll, List.length_cons, List.length_nil, Bool.false_eq_true, if_true, if_false, ite_self, eq_self, Bool.not_true, Bool.not_false, line, Nat.reduceLeDiff, Nat.reduceLT, Nat.reduceAdd, Int.reduceLT, Int.reduceLE, true_and, and_true, ixt0, ixt1, ixt2, ixt3, ixl0, ixl1, ixl2, ixl3]
  refine ⟨hl, fun d hd => ?_, ?_⟩
  · rw [rule_eq n d (hx d hd), wp_ok]
  · rw [all_map]
theorem rules_eq (n : Nat) (d : D) (w : Wf line d) : evF T G (n + 3) 4 [d] = .ok (.bool (rulesB d)) := (are_rules_ok n d w).ok
end K06

set_option Elab.async false
set_option linter.all false
set_option maxRecDepth 100000
set_option maxHeartbeats 8000000
namespace K06
open PySem Ev
/-! what the law makes -/
theorem cell_ok (n : Nat) (ns : List Int) (k : Nat) (hk : k ≤ 1000) (hl : ns.length ≤ 63) : WP (evF T G (n + 1) 5 [.list (ns.map .int), .int (k : Nat)]) fun v => ∃ i, v = .int i := by
  rw [e5]
  refine wp_run rfl ?_
  simp only [bd5, startE, List.map, List.replicate, List.append, List.cons_append, List.nil_append, wp_ok, op_some, op_none, bp_bool, ip_int, lp_list, tp_tup, slot_0, slot_s, WP_cB, wp_slot, wp_lit, wp_c1, wp_c2, wp_nil, wp_cons, wp_cN, wp_and, wp_or, wp_not, wp_if, wp_tup, wp_lst, wp_chain, wp_isi, wp_part0, wp_part, wp_sl, wp_call, wp_seq, wp_src, wf_next, wf_brk, wf_cnt, wf_retN, wf_seq, wf_ret, wf_drop, wf_asg, wf_asgT, wf_par, wf_if, wf_app, wf_setI, tg_name, tg_tup, add_int, add_str, add_list, add_tup, sub_int, mul_int, mod_int, fdiv_int, pow_int, lt_int, le_int, gt_int, ge_int, eq_int, eq_str, ne_int, ne_str, neg_int, abs_int, int_int, int_bool, tup_list, lst_tup, lst_list, len_str, len_list, len_tup, seq_list, seq_tup, seq_str, rng1_int, rng2_int, sl_list, sl_tup, sl_str, rev_list, rev_tup, upper_str, List.set_cons_zero, List.set_cons_succ, setAll, List.length_cons, List.length_nil, Bool.false_eq_true, if_true, if_false, ite_self, eq_self, Bool.not_true, Bool.not_false, line, Nat.reduceLeDiff, Nat.reduceLT, Nat.reduceAdd, Int.reduceLT, Int.reduceLE, true_and, and_true, ixt0, ixt1, ixt2, ixt3, ixl0, ixl1, ixl2, ixl3]
  have kk : ((k : Nat) : Int) ≤ 1000 := by omega
  have k2 : (k : Int) * (k : Int) ≤ 1000 * 1000 := Int.mul_le_mul kk kk (by omega) (by omega)
  have k3 : 0 ≤ (k : Int) * (k : Int) := Int.mul_nonneg (by omega) (by omega)
  split
  · rename_i h
    simp only [decide_eq_true_eq, List.length_map] at h
    refine ix_all (by omega) (by simpa using h) fun d hd => ?_
    obtain ⟨i, _, rfl⟩ := map_int hd
    exact ⟨i, rfl⟩
  · refine ⟨by rw [small_of (i := (k : Int)) (by omega) (by omega)]; rfl, by rw [small_of (i := 7) (by omega) (by omega)]; rfl, by rw [small_of (i := 48271) (by omega) (by omega)]; rfl, ?_⟩
    refine wf_for (fun ds j ρ => ∃ st x, ρ = [some (.list (ns.map .int)), some (.int (k : Nat)), some (.int st), x] ∧ 0 ≤ st ∧ st < 2147483647) ?_
    simp only [wp_ok, op_some, op_none, bp_bool, ip_int, lp_list, tp_tup, slot_0, slot_s, WP_cB, wp_slot, wp_lit, wp_c1, wp_c2, wp_nil, wp_cons, wp_cN, wp_and, wp_or, wp_not, wp_if, wp_tup, wp_lst, wp_chain, wp_isi, wp_part0, wp_part, wp_sl, wp_call, wp_seq, wp_src, wf_next, wf_brk, wf_cnt, wf_retN, wf_seq, wf_ret, wf_drop, wf_asg, wf_asgT, wf_par, wf_if, wf_app, wf_setI, tg_name, tg_tup, add_int, add_str, add_list, add_tup, sub_int, mul_int, mod_int, fdiv_int, pow_int, lt_int, le_int, gt_int, ge_int, eq_int, eq_str, ne_int, ne_str, neg_int, abs_int, int_int, int_bool, tup_list, lst_tup, lst_list, len_str, len_list, len_tup, seq_list, seq_tup, seq_str, rng1_int, rng2_int, sl_list, sl_tup, sl_str, rev_list, rev_tup, upper_str, List.set_cons_zero, List.set_cons_succ, setAll, List.length_cons, List.length_nil, Bool.false_eq_true, if_true, if_false, ite_self, eq_self, Bool.not_true, Bool.not_false, line, Nat.reduceLeDiff, Nat.reduceLT, Nat.reduceAdd, Int.reduceLT, Int.reduceLE, true_and, and_true, ixt0, ixt1, ixt2, ixt3, ixl0, ixl1, ixl2, ixl3]
    refine ⟨⟨_, _, rfl, Int.emod_nonneg _ (by omega), Int.emod_lt_of_pos _ (by omega)⟩, fun j d ρ hj ⟨st, x, e, h0, h1⟩ => ?_, fun ρ ⟨st, x, e, h0, h1⟩ => ?_⟩
    · obtain ⟨i, _, rfl⟩ := map_int (cutD_mem (mem_get hj))
      subst e
      simp only [wp_ok, op_some, op_none, bp_bool, ip_int, lp_list, tp_tup, slot_0, slot_s, WP_cB, wp_slot, wp_lit, wp_c1, wp_c2, wp_nil, wp_cons, wp_cN, wp_and, wp_or, wp_not, wp_if, wp_tup, wp_lst, wp_chain, wp_isi, wp_part0, wp_part, wp_sl, wp_call, wp_seq, wp_src, wf_next, wf_brk, wf_cnt, wf_retN, wf_seq, wf_ret, wf_drop, wf_asg, wf_asgT, wf_par, wf_if, wf_app, wf_setI, tg_name, tg_tup, add_int, add_str, add_list, add_tup, sub_int, mul_int, mod_int, fdiv_int, pow_int, lt_int, le_int, gt_int, ge_int, eq_int, eq_str, ne_int, ne_str, neg_int, abs_int, int_int, int_bool, tup_list, lst_tup, lst_list, len_str, len_list, len_tup, seq_list, seq_tup, seq_str, rng1_int, rng2_int, sl_list, sl_tup, sl_str, rev_list, rev_tup, upper_str, List.set_cons_zero, List.set_cons_succ, setAll, List.length_cons, List.length_nil, Bool.false_eq_true, if_true, if_false, ite_self, eq_self, Bool.not_true, Bool.not_false, line, Nat.reduceLeDiff, Nat.reduceLT, Nat.reduceAdd, Int.reduceLT, Int.reduceLE, true_and, and_true, ixt0, ixt1, ixt2, ixt3, ixl0, ixl1, ixl2, ixl3]
      exact ⟨by rw [small_of (i := st) (by omega) (by omega)]; rfl, _, _, rfl, Int.emod_nonneg _ (by omega), Int.emod_lt_of_pos _ (by omega)⟩
    · subst e
      simp only [wp_ok, op_some, op_none, bp_bool, ip_int, lp_list, tp_tup, slot_0, slot_s, WP_cB, wp_slot, wp_lit, wp_c1, wp_c2, wp_nil, wp_cons, wp_cN, wp_and, wp_or, wp_not, wp_if, wp_tup, wp_lst, wp_chain, wp_isi, wp_part0, wp_part, wp_sl, wp_call, wp_seq, wp_src, wf_next, wf_brk, wf_cnt, wf_retN, wf_seq, wf_ret, wf_drop, wf_asg, wf_asgT, wf_par, wf_if, wf_app, wf_setI, tg_name, tg_tup, add_int, add_str, add_list, add_tup, sub_int, mul_int, mod_int, fdiv_int, pow_int, lt_int, le_int, gt_int, ge_int, eq_int, eq_str, ne_int, ne_str, neg_int, abs_int, int_int, int_bool, tup_list, lst_tup, lst_list, len_str, len_list, len_tup, seq_list, seq_tup, seq_str, rng1_int, rng2_int, sl_list, sl_tup, sl_str, rev_list, rev_tup, upper_str, List.set_cons_zero, List.set_cons_succ, setAll, List.length_cons, List.length_nil, Bool.false_eq_true, if_true, if_false, ite_self, eq_self, Bool.not_true, Bool.not_false, line, Nat.reduceLeDiff, Nat.reduceLT, Nat.reduceAdd, Int.reduceLT, Int.reduceLE, true_and, and_true, ixt0, ixt1, ixt2, ixt3, ixl0, ixl1, ixl2, ixl3]
      exact ⟨_, rfl⟩
/-- a list of numbers below the modulus -/
def Nums (m : Nat) (v : D) : Prop := ∃ l : List Int, v = .list (l.map .int) ∧ l.length = m ∧ ∀ i ∈ l, 0 ≤ i ∧ i < 1999999973
theorem loop6 (x : Int) (m : Nat) (hm : m ≤ 1000) (dg : Int) (hdg : 0 ≤ dg) : WF (cFor false [5] (cSrc rng1 [cSlot 1]) (cSeqS (cAsg false [3] (c2 modD (c2 addD (c2 addD (c2 mulD (cSlot 3) (c2 addD (c2 modD (cSlot 3) (cLit (.int 65521))) (cLit (.int 40487)))) (c2 mulD (cLit (.int 7)) (cSlot 5))) (cLit (.int 5))) (cLit (.int 1999999973)))) <|
    cSeqS (cAppend 2 (c2 ixD (cLst [cSlot 3, c2 modD (cSlot 4) (cLit (.int 1000000))]) (cN intG [c2 gtD (cSlot 4) (cLit (.int 0))]))) <|
    cSeqS (cAsg false [4] (c2 fdivD (cSlot 4) (cLit (.int 1000000)))) <|
    cNext) [some (.int x), some (.int (m : Nat)), some (.list []), some (.int ((x % 1999999973 + 31) * 765432101 % 1999999973)), some (.int dg), none]) (fun ρ' => slotP ρ' 2 (Nums m)) (fun _ => False) (fun _ => False) (Nums m) := by
  refine wf_for (fun ds j ρ => ∃ (l : List Int) (st dg : Int) (k : Option D), ρ = [some (.int x), some (.int (m : Nat)), some (.list (l.map .int)), some (.int st), some (.int dg), k] ∧ l.length = j ∧ (∀ i ∈ l, 0 ≤ i ∧ i < 1999999973) ∧ 0 ≤ st ∧ st < 1999999973 ∧ 0 ≤ dg) ?_
  simp only [wp_ok, op_some, op_none, bp_bool, ip_int, lp_list, tp_tup, slot_0, slot_s, WP_cB, wp_slot, wp_lit, wp_c1, wp_c2, wp_nil, wp_cons, wp_cN, wp_and, wp_or, wp_not, wp_if, wp_tup, wp_lst, wp_chain, wp_isi, wp_part0, wp_part, wp_sl, wp_call, wp_seq, wp_src, wf_next, wf_brk, wf_cnt, wf_retN, wf_seq, wf_ret, wf_drop, wf_asg, wf_asgT, wf_par, wf_if, wf_app, wf_setI, tg_name, tg_tup, add_int, add_str, add_list, add_tup, sub_int, mul_int, mod_int, fdiv_int, pow_int, lt_int, le_int, gt_int, ge_int, eq_int, eq_str, ne_int, ne_str, neg_int, abs_int, int_int, int_bool, tup_list, lst_tup, lst_list, len_str, len_list, len_tup, seq_list, seq_tup, seq_str, rng1_int, rng2_int, sl_list, sl_tup, sl_str, rev_list, rev_tup, upper_str, List.set_cons_zero, List.set_cons_succ, setAll, List.length_cons, List.length_nil, Bool.false_eq_true, if_true, if_false, ite_self, eq_self, Bool.not_true, Bool.not_false, line, Nat.reduceLeDiff, Nat.reduceLT, Nat.reduceAdd, Int.reduceLT, Int.reduceLE, true_and, and_true, ixt0, ixt1, ixt2, ixt3, ixl0, ixl1, ixl2, ixl3]
  refine ⟨in62_nat (by omega), ⟨[], _, _, _, rfl, rfl, by simp, Int.emod_nonneg _ (by omega), Int.emod_lt_of_pos _ (by omega), hdg⟩, fun j d ρ hj ⟨l, st, dg, k, e, h0, h1, h2, h3, h4⟩ => ?_, fun ρ ⟨l, st, dg, k, e, h0, h1, h2, h3, h4⟩ => ?_⟩
  · obtain ⟨hj1, rfl⟩ := range_get hj
    subst e
    have lj : l.length < 16777216 := by
      have : j < m := by simpa using hj1
      omega
    have m1 : (small64 st || small64 (st % 65521 + 40487)) = true := by rw [small_of (i := st) (by omega) (by omega)]; rfl
    have m2 : (small64 7 || small64 (0 + (j : Int))) = true := by rw [small_of (i := 7) (by omega) (by omega)]; rfl
    simp only [wp_ok, op_some, op_none, bp_bool, ip_int, lp_list, tp_tup, slot_0, slot_s, WP_cB, wp_slot, wp_lit, wp_c1, wp_c2, wp_nil, wp_cons, wp_cN, wp_and, wp_or, wp_not, wp_if, wp_tup, wp_lst, wp_chain, wp_isi, wp_part0, wp_part, wp_sl, wp_call, wp_seq, wp_src, wf_next, wf_brk, wf_cnt, wf_retN, wf_seq, wf_ret, wf_drop, wf_asg, wf_asgT, wf_par, wf_if, wf_app, wf_setI, tg_name, tg_tup, add_int, add_str, add_list, add_tup, sub_int, mul_int, mod_int, fdiv_int, pow_int, lt_int, le_int, gt_int, ge_int, eq_int, eq_str, ne_int, ne_str, neg_int, abs_int, int_int, int_bool, tup_list, lst_tup, lst_list, len_str, len_list, len_tup, seq_list, seq_tup, seq_str, rng1_int, rng2_int, sl_list, sl_tup, sl_str, rev_list, rev_tup, upper_str, List.set_cons_zero, List.set_cons_succ, setAll, List.length_cons, List.length_nil, Bool.false_eq_true, if_true, if_false, ite_self, eq_self, Bool.not_true, Bool.not_false, line, Nat.reduceLeDiff, Nat.reduceLT, Nat.reduceAdd, Int.reduceLT, Int.reduceLE, true_and, and_true, ixt0, ixt1, ixt2, ixt3, ixl0, ixl1, ixl2, ixl3, List.length_map, lj, m1, m2]
    generalize hs : (st * (st % 65521 + 40487) + 7 * (0 + (j : Int)) + 5) = st1
    have s0 := Int.emod_nonneg st1 (b := 1999999973) (by omega)
    have s1 := Int.emod_lt_of_pos st1 (b := 1999999973) (by omega)
    have t0 := Int.emod_nonneg dg (b := 1000000) (by omega)
    have t1 := Int.emod_lt_of_pos dg (b := 1000000) (by omega)
    have fin : ∀ i : Int, 0 ≤ i → i < 1999999973 → ∃ (l' : List Int) (st' dg' : Int) (k : Option D), ([some (.int x), some (.int (m : Nat)), some (.list (l.map .int ++ [.int i])), some (.int (st1 % 1999999973)), some (.int (dg / 1000000)), some (.int (0 + (j : Int)))] : Ev.Env) = [some (.int x), some (.int (m : Nat)), some (.list (l'.map .int)), some (.int st'), some (.int dg'), k] ∧ l'.length = j + 1 ∧ (∀ i ∈ l', 0 ≤ i ∧ i < 1999999973) ∧ 0 ≤ st' ∧ st' < 1999999973 ∧ 0 ≤ dg' := fun i i0 i1 =>
      ⟨l ++ [i], _, _, _, by rw [List.map_append]; rfl, by simp [h0], fun y hy => by
        rcases List.mem_append.mp hy with hy | hy
        · exact h1 y hy
        · rw [List.mem_singleton.mp hy]; exact ⟨i0, i1⟩, s0, s1, Int.ediv_nonneg h4 (by omega)⟩
    by_cases hd : 0 < dg
    · simp only [hd, decide_true, wp_ok, op_some, op_none, bp_bool, ip_int, lp_list, tp_tup, slot_0, slot_s, WP_cB, wp_slot, wp_lit, wp_c1, wp_c2, wp_nil, wp_cons, wp_cN, wp_and, wp_or, wp_not, wp_if, wp_tup, wp_lst, wp_chain, wp_isi, wp_part0, wp_part, wp_sl, wp_call, wp_seq, wp_src, wf_next, wf_brk, wf_cnt, wf_retN, wf_seq, wf_ret, wf_drop, wf_asg, wf_asgT, wf_par, wf_if, wf_app, wf_setI, tg_name, tg_tup, add_int, add_str, add_list, add_tup, sub_int, mul_int, mod_int, fdiv_int, pow_int, lt_int, le_int, gt_int, ge_int, eq_int, eq_str, ne_int, ne_str, neg_int, abs_int, int_int, int_bool, tup_list, lst_tup, lst_list, len_str, len_list, len_tup, seq_list, seq_tup, seq_str, rng1_int, rng2_int, sl_list, sl_tup, sl_str, rev_list, rev_tup, upper_str, List.set_cons_zero, List.set_cons_succ, setAll, List.length_cons, List.length_nil, Bool.false_eq_true, if_true, if_false, ite_self, eq_self, Bool.not_true, Bool.not_false, line, Nat.reduceLeDiff, Nat.reduceLT, Nat.reduceAdd, Int.reduceLT, Int.reduceLE, true_and, and_true, ixt0, ixt1, ixt2, ixt3, ixl0, ixl1, ixl2, ixl3]
      exact ⟨by decide, fin _ t0 (by omega)⟩
    · simp only [hd, decide_false, wp_ok, op_some, op_none, bp_bool, ip_int, lp_list, tp_tup, slot_0, slot_s, WP_cB, wp_slot, wp_lit, wp_c1, wp_c2, wp_nil, wp_cons, wp_cN, wp_and, wp_or, wp_not, wp_if, wp_tup, wp_lst, wp_chain, wp_isi, wp_part0, wp_part, wp_sl, wp_call, wp_seq, wp_src, wf_next, wf_brk, wf_cnt, wf_retN, wf_seq, wf_ret, wf_drop, wf_asg, wf_asgT, wf_par, wf_if, wf_app, wf_setI, tg_name, tg_tup, add_int, add_str, add_list, add_tup, sub_int, mul_int, mod_int, fdiv_int, pow_int, lt_int, le_int, gt_int, ge_int, eq_int, eq_str, ne_int, ne_str, neg_int, abs_int, int_int, int_bool, tup_list, lst_tup, lst_list, len_str, len_list, len_tup, seq_list, seq_tup, seq_str, rng1_int, rng2_int, sl_list, sl_tup, sl_str, rev_list, rev_tup, upper_str, List.set_cons_zero, List.set_cons_succ, setAll, List.length_cons, List.length_nil, Bool.false_eq_true, if_true, if_false, ite_self, eq_self, Bool.not_true, Bool.not_false, line, Nat.reduceLeDiff, Nat.reduceLT, Nat.reduceAdd, Int.reduceLT, Int.reduceLE, true_and, and_true, ixt0, ixt1, ixt2, ixt3, ixl0, ixl1, ixl2, ixl3]
      exact ⟨by decide, fin _ s0 s1⟩
  · subst e
    simp only [wp_ok, op_some, op_none, bp_bool, ip_int, lp_list, tp_tup, slot_0, slot_s, WP_cB, wp_slot, wp_lit, wp_c1, wp_c2, wp_nil, wp_cons, wp_cN, wp_and, wp_or, wp_not, wp_if, wp_tup, wp_lst, wp_chain, wp_isi, wp_part0, wp_part, wp_sl, wp_call, wp_seq, wp_src, wf_next, wf_brk, wf_cnt, wf_retN, wf_seq, wf_ret, wf_drop, wf_asg, wf_asgT, wf_par, wf_if, wf_app, wf_setI, tg_name, tg_tup, add_int, add_str, add_list, add_tup, sub_int, mul_int, mod_int, fdiv_int, pow_int, lt_int, le_int, gt_int, ge_int, eq_int, eq_str, ne_int, ne_str, neg_int, abs_int, int_int, int_bool, tup_list, lst_tup, lst_list, len_str, len_list, len_tup, seq_list, seq_tup, seq_str, rng1_int, rng2_int, sl_list, sl_tup, sl_str, rev_list, rev_tup, upper_str, List.set_cons_zero, List.set_cons_succ, setAll, List.length_cons, List.length_nil, Bool.false_eq_true, if_true, if_false, ite_self, eq_self, Bool.not_true, Bool.not_false, line, Nat.reduceLeDiff, Nat.reduceLT, Nat.reduceAdd, Int.reduceLT, Int.reduceLE, true_and, and_true, ixt0, ixt1, ixt2, ixt3, ixl0, ixl1, ixl2, ixl3]
    refine ⟨l, rfl, ?_, h1⟩
    rw [h0, range_len]
    omega
theorem numbers_ok (n : Nat) (x : Int) (m : Nat) (hm : m ≤ 1000) : WP (evF T G (n + 1) 6 [.int x, .int (m : Nat)]) (Nums m) := by
  rw [e6]
  refine wp_run rfl ?_
  simp only [bd6, startE, List.map, List.replicate, List.append, List.cons_append, List.nil_append, wp_ok, op_some, op_none, bp_bool, ip_int, lp_list, tp_tup, slot_0, slot_s, WP_cB, wp_slot, wp_lit, wp_c1, wp_c2, wp_nil, wp_cons, wp_cN, wp_and, wp_or, wp_not, wp_if, wp_tup, wp_lst, wp_chain, wp_isi, wp_part0, wp_part, wp_sl, wp_call, wp_seq, wp_src, wf_next, wf_brk, wf_cnt, wf_retN, wf_seq, wf_ret, wf_drop, wf_asg, wf_asgT, wf_par, wf_if, wf_app, wf_setI, tg_name, tg_tup, add_int, add_str, add_list, add_tup, sub_int, mul_int, mod_int, fdiv_int, pow_int, lt_int, le_int, gt_int, ge_int, eq_int, eq_str, ne_int, ne_str, neg_int, abs_int, int_int, int_bool, tup_list, lst_tup, lst_list, len_str, len_list, len_tup, seq_list, seq_tup, seq_str, rng1_int, rng2_int, sl_list, sl_tup, sl_str, rev_list, rev_tup, upper_str, List.set_cons_zero, List.set_cons_succ, setAll, List.length_cons, List.length_nil, Bool.false_eq_true, if_true, if_false, ite_self, eq_self, Bool.not_true, Bool.not_false, line, Nat.reduceLeDiff, Nat.reduceLT, Nat.reduceAdd, Int.reduceLT, Int.reduceLE, true_and, and_true, ixt0, ixt1, ixt2, ixt3, ixl0, ixl1, ixl2, ixl3]
  refine ⟨by rw [small_of (i := 765432101) (by omega) (by omega)]; exact Bool.or_true _, ?_⟩
  split
  · rename_i h
    have hx : x < 0 := by simpa using h
    exact loop6 x m hm _ (by rw [if_pos hx]; omega)
  · rename_i h
    have hx : ¬ x < 0 := by simpa using h
    refine ⟨by decide, ?_⟩
    split
    · exact loop6 x m hm _ (by omega)
    · exact loop6 x m hm _ (by omega)
end K06

set_option Elab.async false
set_option linter.all false
set_option maxRecDepth 100000
set_option maxHeartbeats 8000000
namespace K06
open PySem Ev
/-! rules as the law makes them -/
def words : List Str := ["never", "begin", "both", "same", "day", "name", "names", "p", "zzz"]
def Atom (d : D) : Prop := (∃ i, d = .int i) ∨ ∃ z ∈ words, d = .str z
def Rule (d : D) : Prop := ∃ ys, d = .tuple ys ∧ 1 ≤ ys.length ∧ ys.length ≤ 4 ∧ ∀ y ∈ ys, Atom y
def Rules (d : D) : Prop := ∃ ys, d = .tuple ys ∧ 1 ≤ ys.length ∧ ys.length ≤ 4 ∧ ∀ y ∈ ys, Rule y
theorem word_len : ∀ z ∈ words, z.length ≤ 8 ∧ PyData.canLay0 (.str z) = true := by decide +kernel
theorem Atom.wf {d : D} (h : Atom d) : Wf 8 d := by
  rcases h with ⟨i, rfl⟩ | ⟨z, hz, rfl⟩
  · exact .int i
  · exact .str (word_len z hz).1
theorem Atom.lay {d : D} (h : Atom d) (k : Nat) : Lay k d := by
  rcases h with ⟨i, rfl⟩ | ⟨z, hz, rfl⟩
  · exact .int i k
  · exact .str (word_len z hz).2 k
theorem Rule.wf {d : D} (h : Rule d) : Wf 8 d := by
  obtain ⟨ys, rfl, h1, h2, h3⟩ := h
  exact .tup (by omega) fun y hy => (h3 y hy).wf
theorem Rule.lay {d : D} (h : Rule d) : Lay 1 d := by
  obtain ⟨ys, rfl, h1, h2, h3⟩ := h
  exact Lay.tup fun y hy => (h3 y hy).lay 0
theorem atom_w {z : Str} (h : z ∈ words) : Atom (.str z) := .inr ⟨z, h, rfl⟩
theorem atom_i (i : Int) : Atom (.int i) := .inl ⟨i, rfl⟩
theorem field_ok : ∀ d ∈ ([.str "day", .str "name", .str "names", .str "p", .str "zzz"] : List D), ∃ z ∈ words, d = .str z := by
  intro d hd
  simp only [List.mem_cons, List.not_mem_nil, or_false] at hd
  rcases hd with rfl | rfl | rfl | rfl | rfl
  · exact ⟨_, by decide +kernel, rfl⟩
  · exact ⟨_, by decide +kernel, rfl⟩
  · exact ⟨_, by decide +kernel, rfl⟩
  · exact ⟨_, by decide +kernel, rfl⟩
  · exact ⟨_, by decide +kernel, rfl⟩
theorem rules_ok (n : Nat) (v : D) (hv : Nums 5 v) : WP (evF T G (n + 1) 7 [v]) Rules := by
  obtain ⟨l, rfl, hl, hb⟩ := hv
  rw [e7]
  refine wp_run rfl ?_
  simp only [bd7, startE, List.map, List.replicate, List.append, List.cons_append, List.nil_append, wp_ok, op_some, op_none, bp_bool, ip_int, lp_list, tp_tup, slot_0, slot_s, WP_cB, wp_slot, wp_lit, wp_c1, wp_c2, wp_nil, wp_cons, wp_cN, wp_and, wp_or, wp_not, wp_if, wp_tup, wp_lst, wp_chain, wp_isi, wp_part0, wp_part, wp_sl, wp_call, wp_seq, wp_src, wf_next, wf_brk, wf_cnt, wf_retN, wf_seq, wf_ret, wf_drop, wf_asg, wf_asgT, wf_par, wf_if, wf_app, wf_setI, tg_name, tg_tup, add_int, add_str, add_list, add_tup, sub_int, mul_int, mod_int, fdiv_int, pow_int, lt_int, le_int, gt_int, ge_int, eq_int, eq_str, ne_int, ne_str, neg_int, abs_int, int_int, int_bool, tup_list, lst_tup, lst_list, len_str, len_list, len_tup, seq_list, seq_tup, seq_str, rng1_int, rng2_int, sl_list, sl_tup, sl_str, rev_list, rev_tup, upper_str, List.set_cons_zero, List.set_cons_succ, setAll, List.length_cons, List.length_nil, Bool.false_eq_true, if_true, if_false, ite_self, eq_self, Bool.not_true, Bool.not_false, line, Nat.reduceLeDiff, Nat.reduceLT, Nat.reduceAdd, Int.reduceLT, Int.reduceLE, true_and, and_true, ixt0, ixt1, ixt2, ixt3, ixl0, ixl1, ixl2, ixl3]
  refine wf_for (fun ds j ρ => ∃ (rs : List D) (a b c d e f : Option D), ρ = [some (.list (l.map .int)), some (.list [.str "day", .str "name", .str "names", .str "p", .str "zzz"]), some (.list rs), a, b, c, d, e, f] ∧ rs.length = j ∧ ∀ r ∈ rs, Rule r) ?_
  simp only [wp_ok, op_some, op_none, bp_bool, ip_int, lp_list, tp_tup, slot_0, slot_s, WP_cB, wp_slot, wp_lit, wp_c1, wp_c2, wp_nil, wp_cons, wp_cN, wp_and, wp_or, wp_not, wp_if, wp_tup, wp_lst, wp_chain, wp_isi, wp_part0, wp_part, wp_sl, wp_call, wp_seq, wp_src, wf_next, wf_brk, wf_cnt, wf_retN, wf_seq, wf_ret, wf_drop, wf_asg, wf_asgT, wf_par, wf_if, wf_app, wf_setI, tg_name, tg_tup, add_int, add_str, add_list, add_tup, sub_int, mul_int, mod_int, fdiv_int, pow_int, lt_int, le_int, gt_int, ge_int, eq_int, eq_str, ne_int, ne_str, neg_int, abs_int, int_int, int_bool, tup_list, lst_tup, lst_list, len_str, len_list, len_tup, seq_list, seq_tup, seq_str, rng1_int, rng2_int, sl_list, sl_tup, sl_str, rev_list, rev_tup, upper_str, List.set_cons_zero, List.set_cons_succ, setAll, List.length_cons, List.length_nil, Bool.false_eq_true, if_true, if_false, ite_self, eq_self, Bool.not_true, Bool.not_false, line, Nat.reduceLeDiff, Nat.reduceLT, Nat.reduceAdd, Int.reduceLT, Int.reduceLE, true_and, and_true, ixt0, ixt1, ixt2, ixt3, ixl0, ixl1, ixl2, ixl3]
  refine ix_all (by omega) (by simp [hl]) fun d hd => ?_
  obtain ⟨x, hx, rfl⟩ := map_int hd
  have x0 := Int.emod_nonneg x (b := 4) (by omega)
  have x1 := Int.emod_lt_of_pos x (b := 4) (by omega)
  simp only [wp_ok, op_some, op_none, bp_bool, ip_int, lp_list, tp_tup, slot_0, slot_s, WP_cB, wp_slot, wp_lit, wp_c1, wp_c2, wp_nil, wp_cons, wp_cN, wp_and, wp_or, wp_not, wp_if, wp_tup, wp_lst, wp_chain, wp_isi, wp_part0, wp_part, wp_sl, wp_call, wp_seq, wp_src, wf_next, wf_brk, wf_cnt, wf_retN, wf_seq, wf_ret, wf_drop, wf_asg, wf_asgT, wf_par, wf_if, wf_app, wf_setI, tg_name, tg_tup, add_int, add_str, add_list, add_tup, sub_int, mul_int, mod_int, fdiv_int, pow_int, lt_int, le_int, gt_int, ge_int, eq_int, eq_str, ne_int, ne_str, neg_int, abs_int, int_int, int_bool, tup_list, lst_tup, lst_list, len_str, len_list, len_tup, seq_list, seq_tup, seq_str, rng1_int, rng2_int, sl_list, sl_tup, sl_str, rev_list, rev_tup, upper_str, List.set_cons_zero, List.set_cons_succ, setAll, List.length_cons, List.length_nil, Bool.false_eq_true, if_true, if_false, ite_self, eq_self, Bool.not_true, Bool.not_false, line, Nat.reduceLeDiff, Nat.reduceLT, Nat.reduceAdd, Int.reduceLT, Int.reduceLE, true_and, and_true, ixt0, ixt1, ixt2, ixt3, ixl0, ixl1, ixl2, ixl3]
  refine ⟨in62_of' (by omega) (by omega), ⟨[], _, _, _, _, _, _, rfl, rfl, by simp⟩, fun j d ρ hj ⟨rs, a, b, c, d', e, f, er, h0, h1⟩ => ?_, fun ρ ⟨rs, a, b, c, d', e, f, er, h0, h1⟩ => ?_⟩
  · obtain ⟨hj1, rfl⟩ := range_get hj
    have hj2 : j < 4 := by omega
    subst er
    simp only [wp_ok, op_some, op_none, bp_bool, ip_int, lp_list, tp_tup, slot_0, slot_s, WP_cB, wp_slot, wp_lit, wp_c1, wp_c2, wp_nil, wp_cons, wp_cN, wp_and, wp_or, wp_not, wp_if, wp_tup, wp_lst, wp_chain, wp_isi, wp_part0, wp_part, wp_sl, wp_call, wp_seq, wp_src, wf_next, wf_brk, wf_cnt, wf_retN, wf_seq, wf_ret, wf_drop, wf_asg, wf_asgT, wf_par, wf_if, wf_app, wf_setI, tg_name, tg_tup, add_int, add_str, add_list, add_tup, sub_int, mul_int, mod_int, fdiv_int, pow_int, lt_int, le_int, gt_int, ge_int, eq_int, eq_str, ne_int, ne_str, neg_int, abs_int, int_int, int_bool, tup_list, lst_tup, lst_list, len_str, len_list, len_tup, seq_list, seq_tup, seq_str, rng1_int, rng2_int, sl_list, sl_tup, sl_str, rev_list, rev_tup, upper_str, List.set_cons_zero, List.set_cons_succ, setAll, List.length_cons, List.length_nil, Bool.false_eq_true, if_true, if_false, ite_self, eq_self, Bool.not_true, Bool.not_false, line, Nat.reduceLeDiff, Nat.reduceLT, Nat.reduceAdd, Int.reduceLT, Int.reduceLE, true_and, and_true, ixt0, ixt1, ixt2, ixt3, ixl0, ixl1, ixl2, ixl3]
    refine ix_all (by omega) (by simp [hl]; omega) fun dy hy => ?_
    obtain ⟨y, hy', rfl⟩ := map_int hy
    have y1 := Int.emod_nonneg y (b := 5) (by omega)
    have y2 := Int.emod_lt_of_pos y (b := 5) (by omega)
    simp only [wp_ok, op_some, op_none, bp_bool, ip_int, lp_list, tp_tup, slot_0, slot_s, WP_cB, wp_slot, wp_lit, wp_c1, wp_c2, wp_nil, wp_cons, wp_cN, wp_and, wp_or, wp_not, wp_if, wp_tup, wp_lst, wp_chain, wp_isi, wp_part0, wp_part, wp_sl, wp_call, wp_seq, wp_src, wf_next, wf_brk, wf_cnt, wf_retN, wf_seq, wf_ret, wf_drop, wf_asg, wf_asgT, wf_par, wf_if, wf_app, wf_setI, tg_name, tg_tup, add_int, add_str, add_list, add_tup, sub_int, mul_int, mod_int, fdiv_int, pow_int, lt_int, le_int, gt_int, ge_int, eq_int, eq_str, ne_int, ne_str, neg_int, abs_int, int_int, int_bool, tup_list, lst_tup, lst_list, len_str, len_list, len_tup, seq_list, seq_tup, seq_str, rng1_int, rng2_int, sl_list, sl_tup, sl_str, rev_list, rev_tup, upper_str, List.set_cons_zero, List.set_cons_succ, setAll, List.length_cons, List.length_nil, Bool.false_eq_true, if_true, if_false, ite_self, eq_self, Bool.not_true, Bool.not_false, line, Nat.reduceLeDiff, Nat.reduceLT, Nat.reduceAdd, Int.reduceLT, Int.reduceLE, true_and, and_true, ixt0, ixt1, ixt2, ixt3, ixl0, ixl1, ixl2, ixl3]
    refine ix_all y1 (by simpa using y2) fun df hf => ?_
    obtain ⟨zf, wf, rfl⟩ := field_ok df hf
    refine ⟨by decide, ?_⟩
    refine ix_all (Int.emod_nonneg _ (by omega)) (by simpa using Int.emod_lt_of_pos _ (by omega)) fun dg hg => ?_
    obtain ⟨zg, wg, rfl⟩ := field_ok dg hg
    refine ⟨by decide, by decide, by decide, ?_⟩
    refine ix_all (Int.emod_nonneg _ (by omega)) (by simpa using Int.emod_lt_of_pos _ (by omega)) fun dw hw => ?_
    have hw' : ∃ wt : Int, dw = .int wt := by
      simp only [List.mem_cons, List.not_mem_nil, or_false] at hw
      rcases hw with rfl | rfl
      · exact ⟨_, rfl⟩
      · exact ⟨_, rfl⟩
    obtain ⟨wt, rfl⟩ := hw'
    have lr : rs.length < 16777216 := by omega
    have fin : ∀ r : D, Rule r → ∃ (rs' : List D) (a b c d e f : Option D), ([some (.list (l.map .int)), some (.list [.str "day", .str "name", .str "names", .str "p", .str "zzz"]), some (.list (rs ++ [r])), some (.int (0 + (j : Int))), some (.int y), some (.str zf), some (.str zg), some (.int wt), some (.int (y / 20 % 5))] : Ev.Env) = [some (.list (l.map .int)), some (.list [.str "day", .str "name", .str "names", .str "p", .str "zzz"]), some (.list rs'), a, b, c, d, e, f] ∧ rs'.length = j + 1 ∧ ∀ r ∈ rs', Rule r := fun r hr =>
      ⟨rs ++ [r], _, _, _, _, _, _, rfl, by simp [h0], fun q hq => by
        rcases List.mem_append.mp hq with hq | hq
        · exact h1 q hq
        · rw [List.mem_singleton.mp hq]; exact hr⟩
    refine ⟨by decide, ?_⟩
    have rule : ∀ ys : List D, 1 ≤ ys.length → ys.length ≤ 4 → (∀ y ∈ ys, Atom y) → Rule (.tuple ys) := fun ys a b c => ⟨ys, rfl, a, b, c⟩
    have m1 : ("never" : Str) ∈ words := by decide +kernel
    have m2 : ("begin" : Str) ∈ words := by decide +kernel
    have m3 : ("both" : Str) ∈ words := by decide +kernel
    have m4 : ("same" : Str) ∈ words := by decide +kernel
    split
    · exact ⟨lr, fin _ (rule _ (by simp) (by simp) (by simp [atom_w, wf, m1]))⟩
    · split
      · exact ⟨by decide, lr, fin _ (rule _ (by simp) (by simp) (by simp [atom_w, atom_i, wf, m2]))⟩
      · split
        · exact ⟨lr, fin _ (rule _ (by simp) (by simp) (by simp [atom_w, atom_i, wf, wg, m3]))⟩
        · exact ⟨lr, fin _ (rule _ (by simp) (by simp) (by simp [atom_w, atom_i, wf, m4]))⟩
  · subst er
    simp only [wp_ok, op_some, op_none, bp_bool, ip_int, lp_list, tp_tup, slot_0, slot_s, WP_cB, wp_slot, wp_lit, wp_c1, wp_c2, wp_nil, wp_cons, wp_cN, wp_and, wp_or, wp_not, wp_if, wp_tup, wp_lst, wp_chain, wp_isi, wp_part0, wp_part, wp_sl, wp_call, wp_seq, wp_src, wf_next, wf_brk, wf_cnt, wf_retN, wf_seq, wf_ret, wf_drop, wf_asg, wf_asgT, wf_par, wf_if, wf_app, wf_setI, tg_name, tg_tup, add_int, add_str, add_list, add_tup, sub_int, mul_int, mod_int, fdiv_int, pow_int, lt_int, le_int, gt_int, ge_int, eq_int, eq_str, ne_int, ne_str, neg_int, abs_int, int_int, int_bool, tup_list, lst_tup, lst_list, len_str, len_list, len_tup, seq_list, seq_tup, seq_str, rng1_int, rng2_int, sl_list, sl_tup, sl_str, rev_list, rev_tup, upper_str, List.set_cons_zero, List.set_cons_succ, setAll, List.length_cons, List.length_nil, Bool.false_eq_true, if_true, if_false, ite_self, eq_self, Bool.not_true, Bool.not_false, line, Nat.reduceLeDiff, Nat.reduceLT, Nat.reduceAdd, Int.reduceLT, Int.reduceLE, true_and, and_true, ixt0, ixt1, ixt2, ixt3, ixl0, ixl1, ixl2, ixl3]
    exact ⟨rs, rfl, by rw [h0, range_len]; omega, by rw [h0, range_len]; omega, h1⟩
theorem cut1 (xs : List Int) (k : Nat) (h : k ≤ xs.length) : cutD (xs.map PyData.int) (some (k : Int)) none = (xs.drop k).map PyData.int := by
  rw [cutD_from _ _ (by simpa using h), List.map_drop]
theorem signed_ok (n : Nat) (z : Str) (p x : Int) (hz : z.length ≤ 8) : WP (evF T G (n + 1) 11 [.str z, .int p, .int x]) (Wf 100) := by
  rw [e11]
  refine wp_run rfl ?_
  simp only [bd11, startE, List.map, List.replicate, List.append, List.cons_append, List.nil_append, wp_ok, op_some, op_none, bp_bool, ip_int, lp_list, tp_tup, slot_0, slot_s, WP_cB, wp_slot, wp_lit, wp_c1, wp_c2, wp_nil, wp_cons, wp_cN, wp_and, wp_or, wp_not, wp_if, wp_tup, wp_lst, wp_chain, wp_isi, wp_part0, wp_part, wp_sl, wp_call, wp_seq, wp_src, wf_next, wf_brk, wf_cnt, wf_retN, wf_seq, wf_ret, wf_drop, wf_asg, wf_asgT, wf_par, wf_if, wf_app, wf_setI, tg_name, tg_tup, add_int, add_str, add_list, add_tup, sub_int, mul_int, mod_int, fdiv_int, pow_int, lt_int, le_int, gt_int, ge_int, eq_int, eq_str, ne_int, ne_str, neg_int, abs_int, int_int, int_bool, tup_list, lst_tup, lst_list, len_str, len_list, len_tup, seq_list, seq_tup, seq_str, rng1_int, rng2_int, sl_list, sl_tup, sl_str, rev_list, rev_tup, upper_str, List.set_cons_zero, List.set_cons_succ, setAll, List.length_cons, List.length_nil, Bool.false_eq_true, if_true, if_false, ite_self, eq_self, Bool.not_true, Bool.not_false, line, Nat.reduceLeDiff, Nat.reduceLT, Nat.reduceAdd, Int.reduceLT, Int.reduceLE, true_and, and_true, ixt0, ixt1, ixt2, ixt3, ixl0, ixl1, ixl2, ixl3]
  have hl : z.length ≤ 16777216 := by omega
  refine ⟨by decide +kernel, by decide, by decide, ?_⟩
  refine ix_all (Int.emod_nonneg _ (by omega)) (by simpa using Int.emod_lt_of_pos _ (by omega)) fun dm hm => ?_
  have hm' : ∃ k : Int, dm = .int k ∧ 0 < k ∧ k ≤ 94 := by
    simp only [List.mem_cons, List.not_mem_nil, or_false] at hm
    rcases hm with rfl | rfl
    · exact ⟨_, rfl, by omega, by omega⟩
    · exact ⟨_, rfl, by omega, by omega⟩
  obtain ⟨k, rfl, k0, k1⟩ := hm'
  simp only [wp_ok, op_some, op_none, bp_bool, ip_int, lp_list, tp_tup, slot_0, slot_s, WP_cB, wp_slot, wp_lit, wp_c1, wp_c2, wp_nil, wp_cons, wp_cN, wp_and, wp_or, wp_not, wp_if, wp_tup, wp_lst, wp_chain, wp_isi, wp_part0, wp_part, wp_sl, wp_call, wp_seq, wp_src, wf_next, wf_brk, wf_cnt, wf_retN, wf_seq, wf_ret, wf_drop, wf_asg, wf_asgT, wf_par, wf_if, wf_app, wf_setI, tg_name, tg_tup, add_int, add_str, add_list, add_tup, sub_int, mul_int, mod_int, fdiv_int, pow_int, lt_int, le_int, gt_int, ge_int, eq_int, eq_str, ne_int, ne_str, neg_int, abs_int, int_int, int_bool, tup_list, lst_tup, lst_list, len_str, len_list, len_tup, seq_list, seq_tup, seq_str, rng1_int, rng2_int, sl_list, sl_tup, sl_str, rev_list, rev_tup, upper_str, List.set_cons_zero, List.set_cons_succ, setAll, List.length_cons, List.length_nil, Bool.false_eq_true, if_true, if_false, ite_self, eq_self, Bool.not_true, Bool.not_false, line, Nat.reduceLeDiff, Nat.reduceLT, Nat.reduceAdd, Int.reduceLT, Int.reduceLE, true_and, and_true, ixt0, ixt1, ixt2, ixt3, ixl0, ixl1, ixl2, ixl3, k0]
  have hL : (94 : Int) ≤ ((("abcdefghijklmnopqrstuvwxyz0123456789 ABCDEFGHIJKLMNOPQRSTUVWXYZ" : Str) ++ ("!#$&'()*+,-./:;<=>?\x40[]^_`{|}~\"\\" : Str) : Str).length : Int) := by decide +kernel
  have g0 := Int.emod_nonneg (x / 6) (b := k) (by omega)
  have g1 := Int.emod_lt_of_pos (x / 6) (b := k) k0
  refine ix_str (by decide +kernel) g0 (by omega) fun c => ?_
  have c1 : ∀ l h, (L2.cutS z l h).length ≤ 8 := fun l h => Nat.le_trans (cutS_len z l h) hz
  have c2 : ∀ l h l' h', ((L2.cutS z l h).length + (L2.cutS z l' h').length) ≤ 16777216 := fun l h l' h' => by have := c1 l h; have := c1 l' h'; omega
  have c3 : ∀ l h (c : Nat), ((L2.cutS z l h).length + (⟨#[c]⟩ : Str).length) ≤ 16777216 := fun l h c => by have := c1 l h; rw [str_one]; omega
  have c4 : ∀ l h (c : Nat) l' h', ((L2.cutS z l h).length + (⟨#[c]⟩ : Str).length + (L2.cutS z l' h').length) ≤ 16777216 := fun l h c l' h' => by have := c1 l h; have := c1 l' h'; rw [str_one]; omega
  have z0 : (0 : Int) < (z.length : Int) + 1 := by omega
  simp only [wp_ok, op_some, op_none, bp_bool, ip_int, lp_list, tp_tup, slot_0, slot_s, WP_cB, wp_slot, wp_lit, wp_c1, wp_c2, wp_nil, wp_cons, wp_cN, wp_and, wp_or, wp_not, wp_if, wp_tup, wp_lst, wp_chain, wp_isi, wp_part0, wp_part, wp_sl, wp_call, wp_seq, wp_src, wf_next, wf_brk, wf_cnt, wf_retN, wf_seq, wf_ret, wf_drop, wf_asg, wf_asgT, wf_par, wf_if, wf_app, wf_setI, tg_name, tg_tup, add_int, add_str, add_list, add_tup, sub_int, mul_int, mod_int, fdiv_int, pow_int, lt_int, le_int, gt_int, ge_int, eq_int, eq_str, ne_int, ne_str, neg_int, abs_int, int_int, int_bool, tup_list, lst_tup, lst_list, len_str, len_list, len_tup, seq_list, seq_tup, seq_str, rng1_int, rng2_int, sl_list, sl_tup, sl_str, rev_list, rev_tup, upper_str, List.set_cons_zero, List.set_cons_succ, setAll, List.length_cons, List.length_nil, Bool.false_eq_true, if_true, if_false, ite_self, eq_self, Bool.not_true, Bool.not_false, line, Nat.reduceLeDiff, Nat.reduceLT, Nat.reduceAdd, Int.reduceLT, Int.reduceLE, true_and, and_true, ixt0, ixt1, ixt2, ixt3, ixl0, ixl1, ixl2, ixl3, hl, c2, c3, c4, str_app, z0]
  refine ix_all (Int.emod_nonneg _ (by omega)) (by simpa using Int.emod_lt_of_pos _ (by omega)) fun d hd => ?_
  simp only [List.mem_cons, List.not_mem_nil, or_false] at hd
  rcases hd with rfl | rfl | rfl
  · refine .str ?_
    rw [str_app, str_app, str_one]
    have := c1 none (some (p % (↑z.length + 1))); have := c1 (some (p % (↑z.length + 1))) none; omega
  · refine .str ?_
    rw [str_app, str_app, str_one]
    have := c1 none (some (p % (↑z.length + 1))); have := c1 (some (p % (↑z.length + 1) + 1)) none; omega
  · refine .str ?_
    rw [str_app]
    have := c1 none (some (p % (↑z.length + 1))); have := c1 (some (p % (↑z.length + 1) + 1)) none; omega
/-- the things put in -/
def somes : List D := [.int 0, .int 1, .int 12, .int 13, .int 1000, .int 1001, .int (-1), .bool true, .none, .str "1", .str "", .str "A", .str "same", .str "never", .str "begin", .str "both", .str "day", .str "p", .str "a1", .str "abcdefgh", .str "abcdefghi", .tuple [], .list [], .dict [], .tuple [.str "never", .str "p"], .int 999999, .bool false]
theorem somes_ok : ∀ d ∈ somes, Wf 100 d := wfl_ok 3 (by decide +kernel)
theorem somes_ix (i : Int) (Q : D → Prop) (q : ∀ d, Wf 100 d → Q d) : OP (ixD (.list somes) (.int (i % 27))) Q := by
  have := Int.emod_lt_of_pos i (b := 27) (by omega)
  have e : (somes.length : Int) = 27 := by decide +kernel
  exact ix_all (Int.emod_nonneg _ (by omega)) (by rw [e]; exact this) fun d hd => q d (somes_ok d hd)
theorem changed_atom (n : Nat) (d : D) (h : Atom d) (xs : List Int) (hx : 3 ≤ xs.length) (k : Int) : WP (evF T G (n + 2) 12 [d, .list (xs.map .int), .int k]) (Wf 100) := by
  obtain ⟨x, y, w, r, rfl⟩ : ∃ x y w r, xs = x :: y :: w :: r := by
    match xs, hx with
    | x :: y :: w :: r, _ => exact ⟨x, y, w, r, rfl⟩
  rw [e12]
  refine wp_run rfl ?_
  rcases h with ⟨i, rfl⟩ | ⟨z, hz, rfl⟩
  · simp [bd12, bd12s1, bd12s2, bd12s3, bd12s4, bd12s5, startE, isiB, tyN, wp_ok, op_some, op_none, bp_bool, ip_int, lp_list, tp_tup, slot_0, slot_s, WP_cB, wp_slot, wp_lit, wp_c1, wp_c2, wp_nil, wp_cons, wp_cN, wp_and, wp_or, wp_not, wp_if, wp_tup, wp_lst, wp_chain, wp_isi, wp_part0, wp_part, wp_sl, wp_call, wp_seq, wp_src, wf_next, wf_brk, wf_cnt, wf_retN, wf_seq, wf_ret, wf_drop, wf_asg, wf_asgT, wf_par, wf_if, wf_app, wf_setI, tg_name, tg_tup, add_int, add_str, add_list, add_tup, sub_int, mul_int, mod_int, fdiv_int, pow_int, lt_int, le_int, gt_int, ge_int, eq_int, eq_str, ne_int, ne_str, neg_int, abs_int, int_int, int_bool, tup_list, lst_tup, lst_list, len_str, len_list, len_tup, seq_list, seq_tup, seq_str, rng1_int, rng2_int, sl_list, sl_tup, sl_str, rev_list, rev_tup, upper_str, List.set_cons_zero, List.set_cons_succ, setAll, List.length_cons, List.length_nil, Bool.false_eq_true, if_true, if_false, ite_self, eq_self, Bool.not_true, Bool.not_false, line, Nat.reduceLeDiff, Nat.reduceLT, Nat.reduceAdd, Int.reduceLT, Int.reduceLE, true_and, and_true, ixt0, ixt1, ixt2, ixt3, ixl0, ixl1, ixl2, ixl3]
    split
    · refine ⟨by decide, ix_all (Int.emod_nonneg _ (by omega)) (by simpa using Int.emod_lt_of_pos _ (by omega)) fun d hd => ?_⟩
      simp only [List.mem_cons, List.not_mem_nil, or_false] at hd
      rcases hd with rfl | rfl
      · exact .int _
      · exact .int _
    · exact ⟨by decide, somes_ix _ _ fun d hd => hd⟩
  · simp [bd12, bd12s1, bd12s2, bd12s3, bd12s4, bd12s5, startE, isiB, tyN, wp_ok, op_some, op_none, bp_bool, ip_int, lp_list, tp_tup, slot_0, slot_s, WP_cB, wp_slot, wp_lit, wp_c1, wp_c2, wp_nil, wp_cons, wp_cN, wp_and, wp_or, wp_not, wp_if, wp_tup, wp_lst, wp_chain, wp_isi, wp_part0, wp_part, wp_sl, wp_call, wp_seq, wp_src, wf_next, wf_brk, wf_cnt, wf_retN, wf_seq, wf_ret, wf_drop, wf_asg, wf_asgT, wf_par, wf_if, wf_app, wf_setI, tg_name, tg_tup, add_int, add_str, add_list, add_tup, sub_int, mul_int, mod_int, fdiv_int, pow_int, lt_int, le_int, gt_int, ge_int, eq_int, eq_str, ne_int, ne_str, neg_int, abs_int, int_int, int_bool, tup_list, lst_tup, lst_list, len_str, len_list, len_tup, seq_list, seq_tup, seq_str, rng1_int, rng2_int, sl_list, sl_tup, sl_str, rev_list, rev_tup, upper_str, List.set_cons_zero, List.set_cons_succ, setAll, List.length_cons, List.length_nil, Bool.false_eq_true, if_true, if_false, ite_self, eq_self, Bool.not_true, Bool.not_false, line, Nat.reduceLeDiff, Nat.reduceLT, Nat.reduceAdd, Int.reduceLT, Int.reduceLE, true_and, and_true, ixt0, ixt1, ixt2, ixt3, ixl0, ixl1, ixl2, ixl3]
    split
    · exact signed_ok n z y w (word_len z hz).1
    · exact ⟨by decide, somes_ix _ _ fun d hd => hd⟩
theorem all_app {P : D → Prop} {a b : List D} (h : ∀ d ∈ a, P d) (h' : ∀ d ∈ b, P d) : ∀ d ∈ a ++ b, P d := fun d hd => by
  rcases List.mem_append.mp hd with hd | hd
  · exact h d hd
  · exact h' d hd
theorem all_one {P : D → Prop} {x : D} (h : P x) : ∀ d ∈ [x], P d := fun d hd => by
  rw [List.mem_singleton.mp hd]; exact h
theorem changed_tup (n : Nat) (y0 : D) (yr : List D) (hl : yr.length ≤ 7) (hs : SeqAt.shaped (.tuple (y0 :: yr)) = true) (hw : ∀ y ∈ y0 :: yr, Wf 100 y) (x : Int) (xr : List Int) (k : Int)
    (rec : 0 < k → ∀ y ∈ y0 :: yr, WP (evF T G n 12 [y, .list (xr.map .int), .int (k - 1)]) (Wf 100)) : WP (evF T G (n + 1) 12 [.tuple (y0 :: yr), .list ((x :: xr).map .int), .int k]) (Wf 100) := by
  have hcut : cutD ((x :: xr).map PyData.int) (some 1) none = xr.map PyData.int := cut1 (x :: xr) 1 (by simp)
  generalize hys : y0 :: yr = ys at hs hw rec
  have hy1 : 1 ≤ ys.length := by rw [← hys]; simp
  have hy8 : ys.length ≤ 8 := by rw [← hys]; simp; omega
  rw [e12]
  refine wp_run rfl ?_
  have t1 : isiB (.tuple ys) "str" = false := rfl
  have t2 : isiB (.tuple ys) "int" = false := rfl
  have t3 : isiB (.tuple ys) "tuple" = true := rfl
  have t0 : (0 : Int) < (ys.length : Int) := by omega
  simp only [bd12, bd12s1, bd12s2, bd12s3, bd12s4, bd12s5, startE, List.map, List.replicate, List.append, List.cons_append, List.nil_append, wp_ok, op_some, op_none, bp_bool, ip_int, lp_list, tp_tup, slot_0, slot_s, WP_cB, wp_slot, wp_lit, wp_c1, wp_c2, wp_nil, wp_cons, wp_cN, wp_and, wp_or, wp_not, wp_if, wp_tup, wp_lst, wp_chain, wp_isi, wp_part0, wp_part, wp_sl, wp_call, wp_seq, wp_src, wf_next, wf_brk, wf_cnt, wf_retN, wf_seq, wf_ret, wf_drop, wf_asg, wf_asgT, wf_par, wf_if, wf_app, wf_setI, tg_name, tg_tup, add_int, add_str, add_list, add_tup, sub_int, mul_int, mod_int, fdiv_int, pow_int, lt_int, le_int, gt_int, ge_int, eq_int, eq_str, ne_int, ne_str, neg_int, abs_int, int_int, int_bool, tup_list, lst_tup, lst_list, len_str, len_list, len_tup, seq_list, seq_tup, seq_str, rng1_int, rng2_int, sl_list, sl_tup, sl_str, rev_list, rev_tup, upper_str, List.set_cons_zero, List.set_cons_succ, setAll, List.length_cons, List.length_nil, Bool.false_eq_true, if_true, if_false, ite_self, eq_self, Bool.not_true, Bool.not_false, line, Nat.reduceLeDiff, Nat.reduceLT, Nat.reduceAdd, Int.reduceLT, Int.reduceLE, true_and, and_true, ixt0, ixt1, ixt2, ixt3, ixl0, ixl1, ixl2, ixl3, t1, t2, t3]
  refine eq_tup1 hy1 hs ?_
  simp only [bd12s6, wp_ok, op_some, op_none, bp_bool, ip_int, lp_list, tp_tup, slot_0, slot_s, WP_cB, wp_slot, wp_lit, wp_c1, wp_c2, wp_nil, wp_cons, wp_cN, wp_and, wp_or, wp_not, wp_if, wp_tup, wp_lst, wp_chain, wp_isi, wp_part0, wp_part, wp_sl, wp_call, wp_seq, wp_src, wf_next, wf_brk, wf_cnt, wf_retN, wf_seq, wf_ret, wf_drop, wf_asg, wf_asgT, wf_par, wf_if, wf_app, wf_setI, tg_name, tg_tup, add_int, add_str, add_list, add_tup, sub_int, mul_int, mod_int, fdiv_int, pow_int, lt_int, le_int, gt_int, ge_int, eq_int, eq_str, ne_int, ne_str, neg_int, abs_int, int_int, int_bool, tup_list, lst_tup, lst_list, len_str, len_list, len_tup, seq_list, seq_tup, seq_str, rng1_int, rng2_int, sl_list, sl_tup, sl_str, rev_list, rev_tup, upper_str, List.set_cons_zero, List.set_cons_succ, setAll, List.length_cons, List.length_nil, Bool.false_eq_true, if_true, if_false, ite_self, eq_self, Bool.not_true, Bool.not_false, line, Nat.reduceLeDiff, Nat.reduceLT, Nat.reduceAdd, Int.reduceLT, Int.reduceLE, true_and, and_true, ixt0, ixt1, ixt2, ixt3, ixl0, ixl1, ixl2, ixl3, t0]
  have q0 := Int.emod_nonneg (x / 8) (b := (ys.length : Int)) (by omega)
  have q1 := Int.emod_lt_of_pos (x / 8) (b := (ys.length : Int)) t0
  generalize hat : x / 8 % (ys.length : Int) = at_ at q0 q1 ⊢
  refine ⟨by decide, ?_⟩
  have cl : ∀ l h, (cutD ys l h).length ≤ 8 := fun l h => Nat.le_trans (cutD_len ys l h) hy8
  have cw : ∀ l h, ∀ d ∈ cutD ys l h, Wf 100 d := fun l h d hd => hw d (cutD_mem hd)
  have tail : WF (bd12s8 (evF T G n) [some (.tuple ys), some (.list ((x :: xr).map .int)), some (.int k), some (.int x), some (.list somes), some (.int at_), none]) (fun _ => Wf 100 .none) (fun _ => False) (fun _ => False) (Wf 100) := by
    simp only [bd12s8, bd12s9, bd12s10, somes, wp_ok, op_some, op_none, bp_bool, ip_int, lp_list, tp_tup, slot_0, slot_s, WP_cB, wp_slot, wp_lit, wp_c1, wp_c2, wp_nil, wp_cons, wp_cN, wp_and, wp_or, wp_not, wp_if, wp_tup, wp_lst, wp_chain, wp_isi, wp_part0, wp_part, wp_sl, wp_call, wp_seq, wp_src, wf_next, wf_brk, wf_cnt, wf_retN, wf_seq, wf_ret, wf_drop, wf_asg, wf_asgT, wf_par, wf_if, wf_app, wf_setI, tg_name, tg_tup, add_int, add_str, add_list, add_tup, sub_int, mul_int, mod_int, fdiv_int, pow_int, lt_int, le_int, gt_int, ge_int, eq_int, eq_str, ne_int, ne_str, neg_int, abs_int, int_int, int_bool, tup_list, lst_tup, lst_list, len_str, len_list, len_tup, seq_list, seq_tup, seq_str, rng1_int, rng2_int, sl_list, sl_tup, sl_str, rev_list, rev_tup, upper_str, List.set_cons_zero, List.set_cons_succ, setAll, List.length_cons, List.length_nil, Bool.false_eq_true, if_true, if_false, ite_self, eq_self, Bool.not_true, Bool.not_false, line, Nat.reduceLeDiff, Nat.reduceLT, Nat.reduceAdd, Int.reduceLT, Int.reduceLE, true_and, and_true, ixt0, ixt1, ixt2, ixt3, ixl0, ixl1, ixl2, ixl3]
    refine ⟨by decide, ?_⟩
    split
    · exact ⟨by decide, somes_ix _ _ fun d hd => ⟨by omega, .tup (by simp; omega) (all_app hw (all_one hd))⟩⟩
    · rename_i hne
      have hne : ¬ (x / 64 % 6 = 5) := by simpa using hne
      have w0 := Int.emod_nonneg (x / 64) (b := 6) (by omega)
      have w1 := Int.emod_lt_of_pos (x / 64) (b := 6) (by omega)
      refine ⟨by have := cl none (some at_); have := cl (some (at_ + 1)) none; omega, ?_⟩
      refine ix_allT q0 q1 fun d hd => ⟨by have := cl none (some at_); omega, by have := cl none (some at_); have := cl (some at_) none; simp; omega, ?_⟩
      simp only [bd12s11, wp_ok, op_some, op_none, bp_bool, ip_int, lp_list, tp_tup, slot_0, slot_s, WP_cB, wp_slot, wp_lit, wp_c1, wp_c2, wp_nil, wp_cons, wp_cN, wp_and, wp_or, wp_not, wp_if, wp_tup, wp_lst, wp_chain, wp_isi, wp_part0, wp_part, wp_sl, wp_call, wp_seq, wp_src, wf_next, wf_brk, wf_cnt, wf_retN, wf_seq, wf_ret, wf_drop, wf_asg, wf_asgT, wf_par, wf_if, wf_app, wf_setI, tg_name, tg_tup, add_int, add_str, add_list, add_tup, sub_int, mul_int, mod_int, fdiv_int, pow_int, lt_int, le_int, gt_int, ge_int, eq_int, eq_str, ne_int, ne_str, neg_int, abs_int, int_int, int_bool, tup_list, lst_tup, lst_list, len_str, len_list, len_tup, seq_list, seq_tup, seq_str, rng1_int, rng2_int, sl_list, sl_tup, sl_str, rev_list, rev_tup, upper_str, List.set_cons_zero, List.set_cons_succ, setAll, List.length_cons, List.length_nil, Bool.false_eq_true, if_true, if_false, ite_self, eq_self, Bool.not_true, Bool.not_false, line, Nat.reduceLeDiff, Nat.reduceLT, Nat.reduceAdd, Int.reduceLT, Int.reduceLE, true_and, and_true, ixt0, ixt1, ixt2, ixt3, ixl0, ixl1, ixl2, ixl3, List.cons_append, List.nil_append]
      refine ix_all w0 (by simp; omega) fun e he => ?_
      simp only [List.mem_cons, List.not_mem_nil, or_false] at he
      rcases he with rfl | rfl | rfl | rfl | rfl
      · exact .tup (by have := cl none (some at_); have := cl (some (at_ + 1)) none; simp; omega) (all_app (cw _ _) (cw _ _))
      · exact .tup (by have := cl none (some at_); have := cl (some at_) none; simp; omega) (all_app (all_app (cw _ _) (all_one (hw d hd))) (cw _ _))
      · exact .tup (by simp; omega) fun d hd => hw d (by simpa using hd)
      · exact .lst (by omega) hw
      · exact .tup (by have := cl (some 1) none; omega) (cw _ _)
  simp only [bd12s7, wp_ok, op_some, op_none, bp_bool, ip_int, lp_list, tp_tup, slot_0, slot_s, WP_cB, wp_slot, wp_lit, wp_c1, wp_c2, wp_nil, wp_cons, wp_cN, wp_and, wp_or, wp_not, wp_if, wp_tup, wp_lst, wp_chain, wp_isi, wp_part0, wp_part, wp_sl, wp_call, wp_seq, wp_src, wf_next, wf_brk, wf_cnt, wf_retN, wf_seq, wf_ret, wf_drop, wf_asg, wf_asgT, wf_par, wf_if, wf_app, wf_setI, tg_name, tg_tup, add_int, add_str, add_list, add_tup, sub_int, mul_int, mod_int, fdiv_int, pow_int, lt_int, le_int, gt_int, ge_int, eq_int, eq_str, ne_int, ne_str, neg_int, abs_int, int_int, int_bool, tup_list, lst_tup, lst_list, len_str, len_list, len_tup, seq_list, seq_tup, seq_str, rng1_int, rng2_int, sl_list, sl_tup, sl_str, rev_list, rev_tup, upper_str, List.set_cons_zero, List.set_cons_succ, setAll, List.length_cons, List.length_nil, Bool.false_eq_true, if_true, if_false, ite_self, eq_self, Bool.not_true, Bool.not_false, line, Nat.reduceLeDiff, Nat.reduceLT, Nat.reduceAdd, Int.reduceLT, Int.reduceLE, true_and, and_true, ixt0, ixt1, ixt2, ixt3, ixl0, ixl1, ixl2, ixl3]
  split
  · rename_i hk
    have hk : 0 < k := by simpa using hk
    split
    · refine ix_allT q0 q1 fun d hd => ?_
      have hcut' : cutD (.int x :: xr.map PyData.int) (some 1) none = xr.map PyData.int := hcut
      rw [hcut']
      refine (rec hk d hd).imp fun v hv => ⟨by have := cl none (some at_); omega, by have := cl none (some at_); have := cl (some (at_ + 1)) none; simp; omega, ?_⟩
      exact .tup (by have := cl none (some at_); have := cl (some (at_ + 1)) none; simp; omega) (all_app (all_app (cw _ _) (all_one hv)) (cw _ _))
    · exact tail
  · exact tail
theorem changed_rule (n : Nat) (d : D) (h : Rule d) (xs : List Int) (hx : 4 ≤ xs.length) (k : Int) : WP (evF T G (n + 3) 12 [d, .list (xs.map .int), .int k]) (Wf 100) := by
  have hs := h.lay.shaped (by omega)
  obtain ⟨ys, rfl, h1, h2, h3⟩ := h
  obtain ⟨y0, yr, rfl⟩ : ∃ y0 yr, ys = y0 :: yr := by
    cases ys with
    | nil => simp at h1
    | cons a b => exact ⟨a, b, rfl⟩
  obtain ⟨x, xr, rfl⟩ : ∃ x xr, xs = x :: xr := by
    cases xs with
    | nil => simp at hx
    | cons a b => exact ⟨a, b, rfl⟩
  exact changed_tup (n + 2) y0 yr (by simp at h2; omega) hs (fun y hy => ((h3 y hy).wf).mono (by omega)) x xr k fun _ y hy => changed_atom n y (h3 y hy) xr (by simp at hx; omega) (k - 1)
theorem changed_rules (n : Nat) (d : D) (h : Rules d) (xs : List Int) (hx : 5 ≤ xs.length) (k : Int) : WP (evF T G (n + 4) 12 [d, .list (xs.map .int), .int k]) (Wf 100) := by
  obtain ⟨ys, rfl, h1, h2, h3⟩ := h
  have hs : SeqAt.shaped (.tuple ys) = true := (Lay.tup fun y hy => (h3 y hy).lay).shaped (by omega)
  obtain ⟨y0, yr, rfl⟩ : ∃ y0 yr, ys = y0 :: yr := by
    cases ys with
    | nil => simp at h1
    | cons a b => exact ⟨a, b, rfl⟩
  obtain ⟨x, xr, rfl⟩ : ∃ x xr, xs = x :: xr := by
    cases xs with
    | nil => simp at hx
    | cons a b => exact ⟨a, b, rfl⟩
  exact changed_tup (n + 3) y0 yr (by simp at h2; omega) hs (fun y hy => ((h3 y hy).wf).mono (by omega)) x xr k fun _ y hy => changed_rule n y (h3 y hy) xr (by simp at hx; omega) (k - 1)
end K06

set_option Elab.async false
set_option linter.all false
set_option maxRecDepth 100000
set_option maxHeartbeats 8000000
namespace K06
open PySem Ev
def Ws (m : Nat) (l : List D) : Prop := l.length ≤ m ∧ ∀ d ∈ l, Wf 100 d
abbrev letters : Str := "abcdefghijklmnopqrstuvwxyz"
abbrev No : Ev.Env → Prop := fun _ => False
abbrev isT : D → Prop := fun v => v = .bool true
theorem all_cons {P : D → Prop} {x : D} {l : List D} (h : P x) (h' : ∀ d ∈ l, P d) : ∀ d ∈ x :: l, P d := fun d hd => by
  rcases List.mem_cons.mp hd with rfl | hd
  · exact h
  · exact h' d hd
theorem isi_bool (b : Bool) : isiB (.bool b) "bool" = true := rfl
theorem paired_all {P : D → Prop} {ds ys : List D} (h : Paired (fun _ y => P y) ds ys) : ∀ y ∈ ys, P y := by
  induction h with
  | nil => intro y hy; simp at hy
  | cons h _ ih => exact all_cons h ih
/-- the last loop -/
theorem law_s12 (a b c : Option D) (ts : List D) (e f : Option D) (h : Ws 400 ts) : WF (bd13s12 (evF T G 11) [a, b, some (.list ts), c, e, f, none, none, none, none, none]) (fun _ => isT .none) No No isT := by
  simp only [bd13s12, bd13s13, wf_seq, wf_ret, wf_next, wp_lit]
  refine wf_for (fun ds j ρ => ∃ g1 g2 g3 g4 g5, ρ = [a, b, some (.list ts), c, e, f, g1, g2, g3, g4, g5]) ?_
  simp only [wp_ok, op_some, op_none, bp_bool, ip_int, lp_list, tp_tup, slot_0, slot_s, WP_cB, wp_slot, wp_lit, wp_c1, wp_c2, wp_nil, wp_cons, wp_cN, wp_and, wp_or, wp_not, wp_if, wp_tup, wp_lst, wp_chain, wp_isi, wp_part0, wp_part, wp_sl, wp_call, wp_seq, wp_src, wf_next, wf_brk, wf_cnt, wf_retN, wf_seq, wf_ret, wf_drop, wf_asg, wf_asgT, wf_par, wf_if, wf_app, wf_setI, tg_name, tg_tup, add_int, add_str, add_list, add_tup, sub_int, mul_int, mod_int, fdiv_int, pow_int, lt_int, le_int, gt_int, ge_int, eq_int, eq_str, ne_int, ne_str, neg_int, abs_int, int_int, int_bool, tup_list, lst_tup, lst_list, len_str, len_list, len_tup, seq_list, seq_tup, seq_str, rng1_int, rng2_int, sl_list, sl_tup, sl_str, rev_list, rev_tup, upper_str, List.set_cons_zero, List.set_cons_succ, setAll, List.length_cons, List.length_nil, Bool.false_eq_true, if_true, if_false, ite_self, eq_self, Bool.not_true, Bool.not_false, line, Nat.reduceLeDiff, Nat.reduceLT, Nat.reduceAdd, Int.reduceLT, Int.reduceLE, true_and, and_true, ixt0, ixt1, ixt2, ixt3, ixl0, ixl1, ixl2, ixl3]
  refine ⟨⟨_, _, _, _, _, rfl⟩, fun j d ρ hj ⟨g1, g2, g3, g4, g5, er⟩ => ?_, fun ρ _ => trivial⟩
  subst er
  have w100 := h.2 d (mem_get hj)
  have w : Wf line d := w100.mono (by decide)
  have e3 : evF T G 11 3 [d] = .ok (.bool (ruleB d)) := rule_eq 9 d w
  have e4 : evF T G 11 4 [d] = .ok (.bool (rulesB d)) := rules_eq 8 d w
  have e10 : evF T G 11 10 [d] = .ok (.bool (ruleB d)) := lrule_eq 9 d w
  simp only [wp_ok, op_some, op_none, bp_bool, ip_int, lp_list, tp_tup, slot_0, slot_s, WP_cB, wp_slot, wp_lit, wp_c1, wp_c2, wp_nil, wp_cons, wp_cN, wp_and, wp_or, wp_not, wp_if, wp_tup, wp_lst, wp_chain, wp_isi, wp_part0, wp_part, wp_sl, wp_call, wp_seq, wp_src, wf_next, wf_brk, wf_cnt, wf_retN, wf_seq, wf_ret, wf_drop, wf_asg, wf_asgT, wf_par, wf_if, wf_app, wf_setI, tg_name, tg_tup, add_int, add_str, add_list, add_tup, sub_int, mul_int, mod_int, fdiv_int, pow_int, lt_int, le_int, gt_int, ge_int, eq_int, eq_str, ne_int, ne_str, neg_int, abs_int, int_int, int_bool, tup_list, lst_tup, lst_list, len_str, len_list, len_tup, seq_list, seq_tup, seq_str, rng1_int, rng2_int, sl_list, sl_tup, sl_str, rev_list, rev_tup, upper_str, List.set_cons_zero, List.set_cons_succ, setAll, List.length_cons, List.length_nil, Bool.false_eq_true, if_true, if_false, ite_self, eq_self, Bool.not_true, Bool.not_false, line, Nat.reduceLeDiff, Nat.reduceLT, Nat.reduceAdd, Int.reduceLT, Int.reduceLE, true_and, and_true, ixt0, ixt1, ixt2, ixt3, ixl0, ixl1, ixl2, ixl3, e3, e4, e10]
  have fin : ∀ (Q : Prop), Q → OP (neD (.list [.bool (ruleB d), .bool (rulesB d)]) (.list [.bool (ruleB d), .bool (rulesB d)])) fun d' => BP d' fun t => if t = true then isT (.bool false) else
      WP (cComp [10] false [10] (cSeq (cSlot 7)) cYes (cIsi (cSlot 10) "bool") [a, b, some (.list ts), c, e, f, some d, some (.list [.bool (ruleB d), .bool (rulesB d)]), some (.list [.bool (ruleB d), .bool (rulesB d)]), g4, g5]) fun a => OP (allG [a]) fun d' => BP d' fun t => if (!t) = true then isT (.bool false) else Q := by
    intro Q hQ
    refine ne_bools2 _ _ ?_
    simp only [bp_bool, Bool.false_eq_true, if_false]
    refine wp_compM (fun d => .bool (isiB d "bool")) ?_
    simp only [wp_seq, wp_slot, slot_s, slot_0, seq_list, wp_isi, List.set_cons_succ, List.set_cons_zero]
    refine ⟨by show 2 ≤ 16777216; omega, fun d' hd' => trivial, ?_⟩
    rw [all_map]
    simp [isi_bool, bp_bool, hQ]
  have done : ∃ h1 h2 h3 h4 h5, ([a, b, some (.list ts), c, e, f, some d, some (.list [.bool (ruleB d), .bool (rulesB d)]), some (.list [.bool (ruleB d), .bool (rulesB d)]), g4, g5] : Ev.Env) = [a, b, some (.list ts), c, e, f, h1, h2, h3, h4, h5] := ⟨_, _, _, _, _, rfl⟩
  cases w100 with
  | tup hl hx =>
    rename_i xs
    have ht : isiB (.tuple xs) "tuple" = true := rfl
    simp only [ht, if_true]
    refine wp_compM (fun d => .bool (ruleB d)) ?_
    simp only [wp_ok, op_some, op_none, bp_bool, ip_int, lp_list, tp_tup, slot_0, slot_s, WP_cB, wp_slot, wp_lit, wp_c1, wp_c2, wp_nil, wp_cons, wp_cN, wp_and, wp_or, wp_not, wp_if, wp_tup, wp_lst, wp_chain, wp_isi, wp_part0, wp_part, wp_sl, wp_call, wp_seq, wp_src, wf_next, wf_brk, wf_cnt, wf_retN, wf_seq, wf_ret, wf_drop, wf_asg, wf_asgT, wf_par, wf_if, wf_app, wf_setI, tg_name, tg_tup, add_int, add_str, add_list, add_tup, sub_int, mul_int, mod_int, fdiv_int, pow_int, lt_int, le_int, gt_int, ge_int, eq_int, eq_str, ne_int, ne_str, neg_int, abs_int, int_int, int_bool, tup_list, lst_tup, lst_list, len_str, len_list, len_tup, seq_list, seq_tup, seq_str, rng1_int, rng2_int, sl_list, sl_tup, sl_str, rev_list, rev_tup, upper_str, List.set_cons_zero, List.set_cons_succ, setAll, List.length_cons, List.length_nil, Bool.false_eq_true, if_true, if_false, ite_self, eq_self, Bool.not_true, Bool.not_false, line, Nat.reduceLeDiff, Nat.reduceLT, Nat.reduceAdd, Int.reduceLT, Int.reduceLE, true_and, and_true, ixt0, ixt1, ixt2, ixt3, ixl0, ixl1, ixl2, ixl3]
    refine ⟨Nat.le_trans hl (by decide), fun d' hd' => ?_, ?_⟩
    · have : evF T G 11 10 [d'] = .ok (.bool (ruleB d')) := lrule_eq 9 d' ((hx d' hd').mono (by decide))
      rw [this, wp_ok]
    · rw [all_map]
      exact fin _ done
  | none => exact fin _ done
  | bool _ => exact fin _ done
  | int _ => exact fin _ done
  | str _ => exact fin _ done
  | lst _ _ => exact fin _ done
  | dic0 => exact fin _ done
/-- things changed, by the script's cells -/
theorem law_s11 (ns : List Int) (hn : ns.length ≤ 63) (rs : D) (hr : Rules rs) (c e f : Option D) (ts : List D) (h : Ws 300 ts) : WF (bd13s11 (evF T G 11) [some (.list (ns.map .int)), some rs, some (.list ts), c, e, f, none, none, none, none, none]) (fun _ => isT .none) No No isT := by
  obtain ⟨ys, ey, y1, y4, yr⟩ := id hr
  simp only [bd13s11, wf_seq]
  refine wf_for (fun ds j ρ => j ≤ ds.length ∧ ∃ ts e f, ρ = [some (.list (ns.map .int)), some rs, some (.list ts), c, e, f, none, none, none, none, none] ∧ ts.length ≤ 300 + j ∧ ∀ d ∈ ts, Wf 100 d) ?_
  subst ey
  simp only [wp_seq, wp_sl, wp_slot, slot_0, wp_part, wp_lit, ip_int, sl_list, seq_list]
  refine ⟨⟨Nat.zero_le _, ts, _, _, rfl, h.1, h.2⟩, fun j d ρ hj ⟨hj0, ts', e', f', er, h0, h1⟩ => ?_, fun ρ ⟨_, ts', e', f', er, h0, h1⟩ => ?_⟩
  · obtain ⟨x, _, rfl⟩ := map_int (cutD_mem (mem_get hj))
    have hjl : j < (cutD (ns.map PyData.int) (some 1) (some 25)).length := (List.getElem?_eq_some_iff.mp hj).1
    have hc := cutD_len (ns.map PyData.int) (some 1) (some 25)
    have hc : j < 63 := by simp at hc; omega
    subst er
    simp only [wp_ok, op_some, op_none, bp_bool, ip_int, lp_list, tp_tup, slot_0, slot_s, WP_cB, wp_slot, wp_lit, wp_c1, wp_c2, wp_nil, wp_cons, wp_cN, wp_and, wp_or, wp_not, wp_if, wp_tup, wp_lst, wp_chain, wp_isi, wp_part0, wp_part, wp_sl, wp_call, wp_seq, wp_src, wf_next, wf_brk, wf_cnt, wf_retN, wf_seq, wf_ret, wf_drop, wf_asg, wf_asgT, wf_par, wf_if, wf_app, wf_setI, tg_name, tg_tup, add_int, add_str, add_list, add_tup, sub_int, mul_int, mod_int, fdiv_int, pow_int, lt_int, le_int, gt_int, ge_int, eq_int, eq_str, ne_int, ne_str, neg_int, abs_int, int_int, int_bool, tup_list, lst_tup, lst_list, len_str, len_list, len_tup, seq_list, seq_tup, seq_str, rng1_int, rng2_int, sl_list, sl_tup, sl_str, rev_list, rev_tup, upper_str, List.set_cons_zero, List.set_cons_succ, setAll, List.length_cons, List.length_nil, Bool.false_eq_true, if_true, if_false, ite_self, eq_self, Bool.not_true, Bool.not_false, line, Nat.reduceLeDiff, Nat.reduceLT, Nat.reduceAdd, Int.reduceLT, Int.reduceLE, true_and, and_true, ixt0, ixt1, ixt2, ixt3, ixl0, ixl1, ixl2, ixl3]
    refine WP.imp (numbers_ok 10 x 9 (by omega)) fun v hv => ?_
    obtain ⟨l, rfl, hl, hb⟩ := hv
    obtain ⟨p, q, r, rfl⟩ : ∃ p q r, l = p :: q :: r := by
      match l, hl with
      | p :: q :: r, _ => exact ⟨p, q, r, rfl⟩
    have hcut : cutD ((p :: q :: r).map PyData.int) (some 2) none = r.map PyData.int := cut1 (p :: q :: r) 2 (by simp)
    have y0 : (0 : Int) < (ys.length : Int) := by omega
    simp only [List.map, wp_ok, op_some, op_none, bp_bool, ip_int, lp_list, tp_tup, slot_0, slot_s, WP_cB, wp_slot, wp_lit, wp_c1, wp_c2, wp_nil, wp_cons, wp_cN, wp_and, wp_or, wp_not, wp_if, wp_tup, wp_lst, wp_chain, wp_isi, wp_part0, wp_part, wp_sl, wp_call, wp_seq, wp_src, wf_next, wf_brk, wf_cnt, wf_retN, wf_seq, wf_ret, wf_drop, wf_asg, wf_asgT, wf_par, wf_if, wf_app, wf_setI, tg_name, tg_tup, add_int, add_str, add_list, add_tup, sub_int, mul_int, mod_int, fdiv_int, pow_int, lt_int, le_int, gt_int, ge_int, eq_int, eq_str, ne_int, ne_str, neg_int, abs_int, int_int, int_bool, tup_list, lst_tup, lst_list, len_str, len_list, len_tup, seq_list, seq_tup, seq_str, rng1_int, rng2_int, sl_list, sl_tup, sl_str, rev_list, rev_tup, upper_str, List.set_cons_zero, List.set_cons_succ, setAll, List.length_cons, List.length_nil, Bool.false_eq_true, if_true, if_false, ite_self, eq_self, Bool.not_true, Bool.not_false, line, Nat.reduceLeDiff, Nat.reduceLT, Nat.reduceAdd, Int.reduceLT, Int.reduceLE, true_and, and_true, ixt0, ixt1, ixt2, ixt3, ixl0, ixl1, ixl2, ixl3, y0]
    refine ix_allT (Int.emod_nonneg _ (by omega)) (Int.emod_lt_of_pos _ y0) fun d hd => ?_
    refine ix_all (Int.emod_nonneg _ (by omega)) (by simpa using Int.emod_lt_of_pos _ (by omega)) fun t ht => ?_
    have hcut' : cutD (.int p :: .int q :: r.map PyData.int) (some 2) none = r.map PyData.int := hcut
    rw [hcut']
    have hr5 : 5 ≤ r.length := by simp at hl; omega
    have ok : WP (evF T G 11 12 [t, .list (r.map .int), .int 2]) (Wf 100) := by
      simp only [List.mem_cons, List.not_mem_nil, or_false] at ht
      rcases ht with rfl | rfl
      · exact changed_rules 7 _ hr r hr5 2
      · exact changed_rule 8 _ (yr _ hd) r (by omega) 2
    refine ok.imp fun v hv => ?_
    refine ⟨by omega, by omega, _, _, _, rfl, by simp; omega, all_app h1 (all_one hv)⟩
  · subst er
    have hc := cutD_len (ns.map PyData.int) (some 1) (some 25)
    have := law_s12 (some (.list (ns.map .int))) (some (.tuple ys)) c ts' e' f' ⟨by simp at hc; omega, h1⟩
    exact this
theorem law_s9 (ns : List Int) (hn : ns.length ≤ 63) (rs : D) (hr : Rules rs) (ts : List D) (h : Ws 100 ts) : WF (bd13s9 (evF T G 11) [some (.list (ns.map .int)), some rs, some (.list ts), some (.str letters), none, none, none, none, none, none, none]) (fun _ => isT .none) No No isT := by
  have hL : letters.length = 26 := by decide +kernel
  have hS : (signs letters).length = 26 := by rw [signs_len]; exact hL
  have hts := h.1
  simp only [bd13s9, wf_seq, wf_asg, wp_c2, wp_slot, slot_0, slot_s]
  refine wp_comp (fun _ y => Wf 100 y) ?_
  simp only [wp_seq, wp_slot, slot_0, slot_s, seq_str]
  refine ⟨by rw [hS]; decide, fun d hd => ?_, fun l1 p1 => ?_⟩
  · obtain ⟨ch, rfl⟩ := signs_mem hd
    simp only [wp_ok, op_some, op_none, bp_bool, ip_int, lp_list, tp_tup, slot_0, slot_s, WP_cB, wp_slot, wp_lit, wp_c1, wp_c2, wp_nil, wp_cons, wp_cN, wp_and, wp_or, wp_not, wp_if, wp_tup, wp_lst, wp_chain, wp_isi, wp_part0, wp_part, wp_sl, wp_call, wp_seq, wp_src, wf_next, wf_brk, wf_cnt, wf_retN, wf_seq, wf_ret, wf_drop, wf_asg, wf_asgT, wf_par, wf_if, wf_app, wf_setI, tg_name, tg_tup, add_int, add_str, add_list, add_tup, sub_int, mul_int, mod_int, fdiv_int, pow_int, lt_int, le_int, gt_int, ge_int, eq_int, eq_str, ne_int, ne_str, neg_int, abs_int, int_int, int_bool, tup_list, lst_tup, lst_list, len_str, len_list, len_tup, seq_list, seq_tup, seq_str, rng1_int, rng2_int, sl_list, sl_tup, sl_str, rev_list, rev_tup, upper_str, List.set_cons_zero, List.set_cons_succ, setAll, List.length_cons, List.length_nil, Bool.false_eq_true, if_true, if_false, ite_self, eq_self, Bool.not_true, Bool.not_false, line, Nat.reduceLeDiff, Nat.reduceLT, Nat.reduceAdd, Int.reduceLT, Int.reduceLE, true_and, and_true, ixt0, ixt1, ixt2, ixt3, ixl0, ixl1, ixl2, ixl3]
    exact .tup (by simp) (all_cons (.str (by decide +kernel)) (all_one (.str (by rw [str_one]; omega))))
  have n1 : l1.length = 26 := by rw [← p1.length, hS]
  have w1 : ∀ d ∈ l1, Wf 100 d := paired_all p1
  rw [add_list]
  refine ⟨by rw [n1]; show ts.length + 26 ≤ 16777216; omega, ?_⟩
  refine wp_comp (fun _ y => Wf 100 y) ?_
  simp only [wp_seq, wp_slot, slot_0, slot_s, seq_str]
  refine ⟨by rw [hS]; decide, fun d hd => ?_, fun l2 p2 => ?_⟩
  · obtain ⟨ch, rfl⟩ := signs_mem hd
    have hu := PyProof.Rows.len_upper (⟨#[ch]⟩ : Str)
    rw [str_one] at hu
    simp only [wp_ok, op_some, op_none, bp_bool, ip_int, lp_list, tp_tup, slot_0, slot_s, WP_cB, wp_slot, wp_lit, wp_c1, wp_c2, wp_nil, wp_cons, wp_cN, wp_and, wp_or, wp_not, wp_if, wp_tup, wp_lst, wp_chain, wp_isi, wp_part0, wp_part, wp_sl, wp_call, wp_seq, wp_src, wf_next, wf_brk, wf_cnt, wf_retN, wf_seq, wf_ret, wf_drop, wf_asg, wf_asgT, wf_par, wf_if, wf_app, wf_setI, tg_name, tg_tup, add_int, add_str, add_list, add_tup, sub_int, mul_int, mod_int, fdiv_int, pow_int, lt_int, le_int, gt_int, ge_int, eq_int, eq_str, ne_int, ne_str, neg_int, abs_int, int_int, int_bool, tup_list, lst_tup, lst_list, len_str, len_list, len_tup, seq_list, seq_tup, seq_str, rng1_int, rng2_int, sl_list, sl_tup, sl_str, rev_list, rev_tup, upper_str, List.set_cons_zero, List.set_cons_succ, setAll, List.length_cons, List.length_nil, Bool.false_eq_true, if_true, if_false, ite_self, eq_self, Bool.not_true, Bool.not_false, line, Nat.reduceLeDiff, Nat.reduceLT, Nat.reduceAdd, Int.reduceLT, Int.reduceLE, true_and, and_true, ixt0, ixt1, ixt2, ixt3, ixl0, ixl1, ixl2, ixl3, str_one]
    exact .tup (by simp) (all_cons (.str (by decide +kernel)) (all_one (.str (by omega))))
  have n2 : l2.length = 26 := by rw [← p2.length, hS]
  have w2 : ∀ d ∈ l2, Wf 100 d := paired_all p2
  rw [add_list]
  refine ⟨by rw [List.length_append, n1, n2]; show ts.length + 26 + 26 ≤ 16777216; omega, ?_⟩
  have cl : ∀ l h, (L2.cutS letters l h).length ≤ 26 := fun l h => by rw [← hL]; exact cutS_len _ _ _
  have hv : ("vwxyz" : Str).length = 5 := by decide +kernel
  have g1 : ("vwxyz" : Str).length + (L2.cutS letters none (some 3)).length ≤ 16777216 := by have := cl none (some 3); omega
  have g2 : letters.length ≤ 16777216 := by omega
  have g3 : (ts ++ l1 ++ l2).length ≤ 16777213 := by simp; omega
  simp only [List.set_cons_succ, List.set_cons_zero, bd13s10, wp_ok, op_some, op_none, bp_bool, ip_int, lp_list, tp_tup, slot_0, slot_s, WP_cB, wp_slot, wp_lit, wp_c1, wp_c2, wp_nil, wp_cons, wp_cN, wp_and, wp_or, wp_not, wp_if, wp_tup, wp_lst, wp_chain, wp_isi, wp_part0, wp_part, wp_sl, wp_call, wp_seq, wp_src, wf_next, wf_brk, wf_cnt, wf_retN, wf_seq, wf_ret, wf_drop, wf_asg, wf_asgT, wf_par, wf_if, wf_app, wf_setI, tg_name, tg_tup, add_int, add_str, add_list, add_tup, sub_int, mul_int, mod_int, fdiv_int, pow_int, lt_int, le_int, gt_int, ge_int, eq_int, eq_str, ne_int, ne_str, neg_int, abs_int, int_int, int_bool, tup_list, lst_tup, lst_list, len_str, len_list, len_tup, seq_list, seq_tup, seq_str, rng1_int, rng2_int, sl_list, sl_tup, sl_str, rev_list, rev_tup, upper_str, List.set_cons_zero, List.set_cons_succ, setAll, List.length_cons, List.length_nil, Bool.false_eq_true, if_true, if_false, ite_self, eq_self, Bool.not_true, Bool.not_false, line, Nat.reduceLeDiff, Nat.reduceLT, Nat.reduceAdd, Int.reduceLT, Int.reduceLE, true_and, and_true, ixt0, ixt1, ixt2, ixt3, ixl0, ixl1, ixl2, ixl3, g1, g2, g3]
  refine law_s11 ns hn rs hr (some (.str letters)) none none _ ⟨by simp; omega, ?_⟩
  refine all_app (all_app (all_app h.2 w1) w2) (all_cons (wfb_ok (k := 3) (by decide +kernel)) (all_cons (.tup (by simp) (all_cons (.str (by decide +kernel)) (all_cons (.str ?_) (all_one (.int _))))) (all_one (.tup (by simp) (all_cons (.str (by decide +kernel)) (all_cons (.str ?_) (all_cons (.int _) (all_one (.int _)))))))))
  · rw [str_app]; have := cl none (some 3); omega
  · have := cl (some 3) (some 11); omega
def fuel : Nat := 12
theorem law_ok : LawOk T G fuel 13 := by
  intro ns hn _
  refine WP.ok ?_
  show WP (evF T G (11 + 1) 13 [.list (ns.map .int)]) isT
  rw [e13]
  refine wp_run rfl ?_
  simp only [bd13, startE, List.map, List.replicate, List.append, List.cons_append, List.nil_append, wf_seq, wf_asg, wp_call, wp_cons, wp_nil, wp_slot, slot_0, wp_lit]
  refine WP.imp (cell_ok 10 ns 0 (by omega) hn) fun v hv => ?_
  obtain ⟨i, rfl⟩ := hv
  refine WP.imp (numbers_ok 10 i 5 (by omega)) fun v hv => ?_
  refine WP.imp (rules_ok 10 v hv) fun rs hr => ?_
  obtain ⟨ys, ey, y1, y4, yr⟩ := id hr
  subst ey
  have cl : (cutD ys none (some 1)).length ≤ 4 := Nat.le_trans (cutD_len _ _ _) y4
  have g1 : ys.length + (cutD ys none (some 1)).length ≤ 16777216 := by omega
  simp only [bd13s1, bd13s2, bd13s3, bd13s4, bd13s5, bd13s6, bd13s7, bd13s8, List.cons_append, List.nil_append, wp_ok, op_some, op_none, bp_bool, ip_int, lp_list, tp_tup, slot_0, slot_s, WP_cB, wp_slot, wp_lit, wp_c1, wp_c2, wp_nil, wp_cons, wp_cN, wp_and, wp_or, wp_not, wp_if, wp_tup, wp_lst, wp_chain, wp_isi, wp_part0, wp_part, wp_sl, wp_call, wp_seq, wp_src, wf_next, wf_brk, wf_cnt, wf_retN, wf_seq, wf_ret, wf_drop, wf_asg, wf_asgT, wf_par, wf_if, wf_app, wf_setI, tg_name, tg_tup, add_int, add_str, add_list, add_tup, sub_int, mul_int, mod_int, fdiv_int, pow_int, lt_int, le_int, gt_int, ge_int, eq_int, eq_str, ne_int, ne_str, neg_int, abs_int, int_int, int_bool, tup_list, lst_tup, lst_list, len_str, len_list, len_tup, seq_list, seq_tup, seq_str, rng1_int, rng2_int, sl_list, sl_tup, sl_str, rev_list, rev_tup, upper_str, List.set_cons_zero, List.set_cons_succ, setAll, List.length_cons, List.length_nil, Bool.false_eq_true, if_true, if_false, ite_self, eq_self, Bool.not_true, Bool.not_false, line, Nat.reduceLeDiff, Nat.reduceLT, Nat.reduceAdd, Int.reduceLT, Int.reduceLE, true_and, and_true, ixt0, ixt1, ixt2, ixt3, ixl0, ixl1, ixl2, ixl3, g1]
  refine law_s9 ns hn _ hr _ ⟨by simp, ?_⟩
  have hy : ∀ y ∈ ys, Wf 100 y := fun y hy => (yr y hy).wf.mono (by omega)
  refine all_cons (.tup (by omega) hy) (all_cons (.tup (by simp; omega) (all_app hy fun d hd => hy d (cutD_mem hd))) (all_cons (.lst (by omega) hy) ?_))
  exact wfl_ok 4 (by decide +kernel)
end K06

set_option Elab.async false
set_option linter.all false
set_option maxRecDepth 100000
set_option maxHeartbeats 8000000
open PySem PySem.W PyProof.Rows
set_option maxRecDepth 100000 in
set_option maxHeartbeats 0 in
theorem PySem.Challenge.cw_onefolk_k06_what_rules_are_holds : PySem.Challenge.rw_onefolk_k06_what_rules_are.Holds := by
  w_on; o_law; k_head; (case hw => w_witness2)
  k_fill
  refine Ev.walk_ev (l := PySem.Challenge.rw_onefolk_k06_what_rules_are) (n := K06.fuel) (x := "_law_script") ⟨rfl, by decide, by decide⟩ rfl rfl (fun w h Y => PySem.W.kIn_of Y) ?F
  case F =>
    intro w mg fa h KX G0 hmg
    refine' K06.all_mk KX G0 hmg K06.law_ok ?a0 ?l0 ?c0 ?k0 ?a1 ?l1 ?c1 ?k1 ?a2 ?l2 ?c2 ?k2 ?a3 ?l3 ?c3 ?k3 ?a4 ?l4 ?c4 ?k4 ?a5 ?l5 ?c5 ?k5 ?a6 ?l6 ?c6 ?k6 ?a7 ?l7 ?c7 ?k7 ?a8 ?l8 ?c8 ?k8 ?a9 ?l9 ?c9 ?k9 ?a10 ?l10 ?c10 ?k10 ?a11 ?l11 ?c11 ?k11 ?a12 ?l12 ?c12 ?k12 ?a13 ?l13 ?c13 ?k13 ?u0 ?u1 ?u2 ?u3 ?z0 ?z1 ?z2 ?z3 ?z4 ?z5 ?z6 ?z7 ?z8 ?z9
    (case a0 => k_is)
    (case l0 => k_is)
    (case c0 => k_is)
    (case k0 => k_is)
    (case a1 => k_is)
    (case l1 => k_is)
    (case c1 => k_is)
    (case k1 => k_is)
    (case a2 => k_is)
    (case l2 => k_is)
    (case c2 => k_is)
    (case k2 => k_is)
    (case a3 => k_is)
    (case l3 => k_is)
    (case c3 => k_is)
    (case k3 => k_is)
    (case a4 => k_is)
    (case l4 => k_is)
    (case c4 => k_is)
    (case k4 => k_is)
    (case a5 => k_is)
    (case l5 => k_is)
    (case c5 => k_is)
    (case k5 => k_is)
    (case a6 => k_is)
    (case l6 => k_is)
    (case c6 => k_is)
    (case k6 => k_is)
    (case a7 => k_is)
    (case l7 => k_is)
    (case c7 => k_is)
    (case k7 => k_is)
    (case a8 => k_is)
    (case l8 => k_is)
    (case c8 => k_is)
    (case k8 => k_is)
    (case a9 => k_is)
    (case l9 => k_is)
    (case c9 => k_is)
    (case k9 => k_is)
    (case a10 => k_is)
    (case l10 => k_is)
    (case c10 => k_is)
    (case k10 => k_is)
    (case a11 => k_is)
    (case l11 => k_is)
    (case c11 => k_is)
    (case k11 => k_is)
    (case a12 => k_is)
    (case l12 => k_is)
    (case c12 => k_is)
    (case k12 => k_is)
    (case a13 => k_is)
    (case l13 => k_is)
    (case c13 => k_is)
    (case k13 => k_is)
    (case u0 => k_is)
    (case u1 => k_is)
    (case u2 => k_is)
    (case u3 => k_is)
    (case z0 => k_is)
    (case z1 => k_is)
    (case z2 => k_is)
    (case z3 => k_is)
    (case z4 => k_is)
    (case z5 => k_is)
    (case z6 => k_is)
    (case z7 => k_is)
    (case z8 => k_is)
    (case z9 => k_is)
